/- For all numbers, cries, which and when the law NewsAlone ends in true: chains do not matter to each other; without conditions. -/
import Derived.Test.YtppbomajegnkeaaGreatPh
import Derived.Test.YtppbomajegnkeaaGreatPd
import Derived.Test.YtppbomajegnkeaaGreatPg
import Derived.Test.YtppbomajegnkeaaGreatPe
set_option linter.unusedVariables false
set_option linter.unusedSimpArgs false
set_option linter.unusedSectionVars false
set_option maxRecDepth 10000
set_option maxHeartbeats 4000000
namespace Go.Eng
open Go Go.Proofs
def zXd (n:Nw) (cs:List (Int×Int)) (e:Int) (st:List Int):Int:=if zPx n cs e=0 then if (!st.all fun x=>inB x 0 (n.s.length-1))=true then 1 else if st.Nodup then 0 else 5 else zPx n cs e
structure OffOk (n:Nw) (cs:List (Int×Int)) (e:Int) (st:List Int):Prop where
 err:zXd n cs e st=0
 ev:EvOk n cs e
 rng:∀ s∈st,0≤s∧s<n.s.length
 nd:st.Nodup
abbrev zY3 (n:Nw) (cs:List (Int×Int)) (e:Int) (l:List (Int×Int)):PV := .func 173 [] [.ref (zDN n cs),.ref (prs l),.ref (I e)]
theorem f168_2 (n:Nw) (hb:n.s.length≤6) (x:Int):FG 168 [I x,.ref (.func 170 [nwV n] [])] (.bool (!(inB x 0 (n.s.length-1)))):=by
 refine zAe Tryz.f168 ?_
 refine zAd 1<|zAa<|zAd 2<|S_a [(8,.ret (PV.bool (inB x 0 ((↑n.s.length:Int)-1))) [])] (ap (f170 n x (by omega)) an)<|zAc 2<|zAa<|zAn<|E_a [] an (PV.bool !inB x 0 ((↑n.s.length:Int)-1)) [] rfl rfl
theorem f131_2 (n:Nw) (hb:n.s.length≤6) (l:List (Int)) (hl:l.length<4294967296):FG 131 [.sl (l.map I),.func 168 [] [.ref (.func 170 [nwV n] [])]] (I (zEf (fun x => !(inB x 0 (n.s.length-1))) l)):=by
 refine zAe Tryz.f131 ?_
 refine zAd 1<|zAa<|zAi<|zAd 1<|S_a [(0,.n l.length)] (ap (lnS I l) an)<|zAc 1<|zAa<|zAk 0 ?_
 refine zAA (fun i=>i≤l.length∧∀ j,j<i→(fun x => !(inB x 0 (n.s.length-1))) (l.getD j 0)=false) (fun i=>[(8,I (i:Nat))]) (fun i=>l.length-i) (0:Nat) (by simp) fun i ⟨hi,ha⟩=>?_
 refine zAd 1<|zAa<|zAi<|zDo ((↑i:Int)<(↑l.length:Int)) (fun k0=>(zAl<|zAi<|zAk 1<|zAd 2<|zAa<|zAd 3<|S_a [(2,.v (I (l.getD i 0)))] (ap (zCI (0) (by omega):(List.map I l)[i]? = some (I (l.getD i 0))) an)<|zAc 1<|S_a [(7,.ret (PV.bool !inB (l.getD i 0) 0 ((↑n.s.length:Int)-1)) [])] (ap (f168_2 n (by omega) (l.getD i 0)) an)<|zAa<|zFe (!inB (l.getD i 0) 0 ((↑n.s.length:Int)-1)) (fun k1=>(zAd 2<|zAa<|zAn<|E_a [] an (I (↑i:Int)) [] ?_ rfl)) (fun k1=>(zAl<|zAg<|S_a [(1,.v (I (↑(i+1):Int)))] (ap (wrN i) an)<|zAc 1<|zAa ?_)))) (fun k0=>(zAS 0<|zAd 1<|zAa<|zAn<|E_a [] an (I (-1)) [] ?_ rfl))
 ·rw [zBS (i:=i) (by omega) (fun j hj=>by rw [← zAy (d:=0)];exact ha j hj) (by rw [← zAy (d:=0)];first | assumption | exact decide_eq_true ‹_› | (simp only [Bool.not_eq_true',decide_eq_false_iff_not];assumption))]
 ·refine ⟨i+1,⟨by omega,fun j hj=>?_⟩,by omega,by kernel_rfl,by kernel_rfl⟩
  rcases Nat.lt_succ_iff_lt_or_eq.1 hj with h | rfl
  ·exact ha j h
  ·first | assumption | exact decide_eq_false ‹_› | (simp only [Bool.not_eq_false',decide_eq_true_eq];first | assumption | (apply Decidable.of_not_not;assumption))
 ·rw [zCa fun j hj=>by rw [← zAy (d:=0)];exact ha j (by omega)]
theorem f52_2 (n:Nw) (hb:n.s.length≤6) (l:List (Int)) (hl:l.length<4294967296):FG 52 [.sl (l.map I),.func 168 [] [.ref (.func 170 [nwV n] [])]] (.bool (l.any (fun x => !(inB x 0 (n.s.length-1))))):=by
 refine zAe Tryz.f52 ?_
 refine zAd 1<|zAa<|zAd 2<|S_a [(7,.ret (I (zEf (fun x => !inB x 0 ((↑n.s.length:Int)-1)) l)) [])] (ap (f131_2 n (by omega) l (by omega)) an)<|zAc 2<|zAa<|zAn<|E_a [] an (PV.bool (decide (zEf (fun x => !inB x 0 ((↑n.s.length:Int)-1)) l≥0))) [] ?_ rfl
 rw [zDM]
theorem f108_2 (n:Nw) (hb:n.s.length≤6) (l:List (Int)) (hl:l.length<4294967296):FG 108 [.sl (l.map I),.func 170 [nwV n] []] (.bool (l.all (fun x=>inB x 0 (n.s.length-1)))):=by
 refine zAe Tryz.f108 ?_
 refine zAd 2<|zAa<|zAd 2<|S_a [(12,.ret (PV.bool (l.any fun x => !inB x 0 ((↑n.s.length:Int)-1))) [])] (ap (f52_2 n (by omega) l (by omega)) an)<|zAc 2<|zAa<|zAn<|E_a [] an (PV.bool !l.any fun x => !inB x 0 ((↑n.s.length:Int)-1)) [] ?_ rfl
 simp [List.not_any_eq_all_not]
theorem f121_1 (n:Nw) (cs:List (Int×Int)) (e:Int) (st:List Int) (ho:OffOk n cs e st) (yJ:st.length<1000000):FG 121 [nwV n,prs cs,I e,zA9 st] (.tup [zDN n cs,prs (zB0 n (zBl n cs e.toNat)),.agg [zY3 n cs e (zB0 n (zBl n cs e.toNat))],I 0]):=by
 have uG:=ho.ev
 have hcr:=uG.cr
 have vQ:=hcr.w
 have hn:=hcr.nw
 have he:=uG.ev
 have hs6:=hn.sl.2
 have gk:=zB6 (n:=n) (cs:=cs) e.toNat
 have hgl:=zIM (w:=zBl n cs e.toNat) hn
 have hin:(!st.all fun x=>inB x 0 (n.s.length-1))=false:=by
  simp only [Bool.not_eq_false',List.all_eq_true]
  intro s hs;have:=ho.rng s hs
  simp only [inB,Bool.and_eq_true,decide_eq_true_eq];omega
 refine zAe Tryz.f121 ?_
 refine zAd 6<|zAa<|zAd 3<|S_a [(10,.ret (PV.tup [zDN n cs,I 0]) [])] (ap (f90_1 n cs e (by omega)) an)<|zAc 6<|zAa<|zAi<|zAk 0<|zAd 3<|zAa<|zAG<|zAd 3<|S_a [(7,.ret (PV.bool (st.all fun x=>inB x 0 ((↑n.s.length:Int)-1))) [])] (ap (f108_2 n (by omega) st (by omega)) an)<|zAc 2<|zAa<|zFe (!st.all fun x=>inB x 0 ((↑n.s.length:Int)-1)) (fun k0=>(zAd 5<|zAa<|zAn<|E_a [] an (PV.tup [PV.nilp,PV.sl [],PV.agg [PV.nilf],I 1]) [] ?_ rfl)) (fun k0=>(zAl<|zAi<|zAd 1<|S_a [(0,.n st.length)] (ap (lnS I st) an)<|zAc 1<|zAa<|zAk 1 ?_))
 ·rw [hin] at k0;cases k0
 ·refine zAA (fun i=>i≤st.length) (fun (i:Nat)=>[(38,I (i:Nat))]) (fun i=>st.length-i) (0:Nat) (by omega) fun i hi=>?_
  by_cases yV:i<st.length
  ·have kU:has (st.take i) (st.getD i 0)=false:=by
    rw [zVn,decide_eq_false_iff_not]
    intro hm
    have yU:=ho.nd
    rw [← List.take_append_drop i st,List.nodup_append] at yU
    refine yU.2.2 _ hm _ ?_ rfl
    rw [List.drop_eq_getElem_cons yV,zAy yV];exact List.mem_cons_self
   refine zAd 1<|zAa<|zAi<|zA8 ((↑i:Int)<(↑st.length:Int)) (by omega)<|zAl<|zAi<|zAk 2<|zAd 1<|S_a [(2,.v (I (st.getD i 0)))] (ap (zCI (0) (by omega):(List.map I st)[i]? = some (I (st.getD i 0))) an)<|zAc 3<|zAa<|zAd 2<|S_a [(3,.ob),(0,.ob),(0,.v (zA9 (List.take i st)))] (ap ((by exact zA0 (by simp only [List.length_map,zzLn,zAU]<;>omega)):i.ble (List.map I st).length=true)<|ap ((by exact all_map _):((List.map I st).all fun x=>x.cells.length.beq ((fun x=>x.size) Tryz.prog.types[3]))=true)<|ap ((by simp):PV.sl (List.take i (List.drop 0 (List.map I st)))=zA9 (List.take i st)) an)<|zAc 1<|S_a [(8,.ret (PV.bool (has (List.take i st) (st.getD i 0))) [])] (ap (f58 (List.take i st) (st.getD i 0) (by first | omega | (simp<;>omega))) an)<|zAa<|zFe (has (List.take i st) (st.getD i 0)) (fun k1=>(zAd 5<|zAa<|zAn<|E_a [] an (PV.tup [PV.nilp,PV.sl [],PV.agg [PV.nilf],I 5]) [] ?_ rfl)) (fun k1=>(zAl<|zAg<|S_a [(1,.v (I (↑(i+1):Int)))] (ap (wrN i) an)<|zAc 1<|zAa ?_))
   ·rw [kU] at k1;cases k1
   ·exact ⟨i+1,by omega,by omega,by kernel_rfl,by kernel_rfl⟩
  ·refine zAd 1<|zAa<|zAi<|zBk ((↑i:Int)<(↑st.length:Int)) (by omega)<|zAS 1<|zAd 3<|S_a [(7,.ret (hdV (zBl n cs e.toNat)) [])] (ap (f92 n cs e (by omega) (by omega)) an)<|S_a [(7,.ret (PV.own 2 (List.map prV (zB0 n (zBl n cs e.toNat)))) [])] (ap (f91 n cs (zBl n cs e.toNat) (by omega) (by omega)) an)<|zAc 1<|S_a [(3,.v (prs (zB0 n (zBl n cs e.toNat))))] (ap ((zQ9 (zA6 _)):PV.sl (zAz (List.map prV (zB0 n (zBl n cs e.toNat))))=prs (zB0 n (zBl n cs e.toNat))) an)<|zAa<|zAd 8<|zAa<|zAn<|E_a [] an (PV.tup [(PV.agg (I n.h::prs n.l::PV.sl (List.map ntV n.n)::PV.sl (List.map zA9 n.s)::prs cs::PV.map (List.map zBx (List.map pr2 n.l))::(zAM (zAh n) 8++zAM (zAW n) 8))).ref,prs (zB0 n (zBl n cs e.toNat)),PV.agg [PV.func 173 [] [(PV.agg (I n.h::prs n.l::PV.sl (List.map ntV n.n)::PV.sl (List.map zA9 n.s)::prs cs::PV.map (List.map zBx (List.map pr2 n.l))::(zAM (zAh n) 8++zAM (zAW n) 8))).ref.ref,(prs (zB0 n (zBl n cs e.toNat))).ref,(I e).ref]],I 0]) [] rfl rfl
theorem f173 (n:Nw) (cs l:List (Int×Int)) (e:Int) (c:Int×Int) (ho:CrW n cs) (hl:cs.length≤16) (he:0≤e∧e≤1000) (wc:l.length≤1000) (hm:∀ g∈l,(0≤g.1∧g.1<n.h)∧(0≤g.2∧g.2<n.n.length)) (hc:(0≤c.1∧c.1<n.n.length)∧(0≤c.2∧c.2<n.s.length)):FG 173 [prV c,.ref (zDN n cs),.ref (prs l),.ref (I e)] (.sl ((zIj n (zBl n (cs++[c]) e.toNat) l).map prV)):=by
 refine zAe Tryz.f173 ?_
 refine zAd 2<|zAa<|zAd 4<|S_a [(11,.ret (PV.own 2 (List.map prV (zIj n (zBl n (cs++[c]) e.toNat) l))) [])] (ap (f119 n cs l e c (by omega) (by omega) (by omega) (by omega) (by omega) (by omega)) an)<|zAc 1<|zAa<|zAn<|E_a [(1,.envv ([(4,(PV.agg [I c.fst,I c.snd]).box),(5,prs (zIj n (zBl n (cs++[c]) e.toNat) l))]) (prs (zIj n (zBl n (cs++[c]) e.toNat) l)))] (ap (And.intro (Eq.trans (by kernel_rfl:Env.frz [(4,(PV.agg [I c.fst,I c.snd]).box),(5,PV.own 2 (List.map prV (zIj n (zBl n (cs++[c]) e.toNat) l)))] 5 []=some [(4,(PV.agg [I c.fst,I c.snd]).box),(5,PV.sl (zAz (List.map prV (zIj n (zBl n (cs++[c]) e.toNat) l))))]) ((by simp only [show zAz (List.map prV (zIj n (zBl n (cs++[c]) e.toNat) l))=List.map prV (zIj n (zBl n (cs++[c]) e.toNat) l) from (by first | exact zA6 _ | exact zBC _ | exact zBp _ | exact zBG (zBC _) | exact zBG (zBp _) | exact zED (by simp [zDe]) (zA6 _))]):some [(4,(PV.agg [I c.fst,I c.snd]).box),(5,PV.sl (zAz (List.map prV (zIj n (zBl n (cs++[c]) e.toNat) l))))]=some [(4,(PV.agg [I c.fst,I c.snd]).box),(5,prs (zIj n (zBl n (cs++[c]) e.toNat) l))])) (zU4 (by first | exact zA6 _ | exact zBC _ | exact zBp _):PV.mapW (inl 5 [] (PV.own 2 (List.map prV (zIj n (zBl n (cs++[c]) e.toNat) l)))) (PV.bor 5 [] 2 0 (List.map prV (zIj n (zBl n (cs++[c]) e.toNat) l)).length)=prs (zIj n (zBl n (cs++[c]) e.toNat) l))) an) (prs (zIj n (zBl n (cs++[c]) e.toNat) l)) [] rfl rfl
end Go.Eng
namespace Go.Eng
open Go Go.Proofs
end Go.Eng
namespace Go.Eng
open Go Go.Proofs
theorem Tr.ge {n:Nw} {w:List Int} {S:Nat→Nat→Prop} (ht:Tr n w S) {h c:Nat} (hh:h<n.h.toNat) (hc:c<8) {v:Int}:v≤w.getD (h*8+c) 0↔v≤-1∨∃ i,i<n.n.length∧(zAh n).getD i 0=(c:Int)∧S h i∧v≤i:=by
 have ha:=ht.at_ h c hh hc
 constructor
 ·intro hv
  rcases ha with h1 | ⟨i,g1,g2,g3,g4⟩
  ·exact .inl (by omega)
  ·exact .inr ⟨i,g1,g2,g4,by omega⟩
 ·rintro (h1 | ⟨i,g1,g2,g3,g4⟩)
  ·rcases ha with h2 | ⟨i,_,_,g3,_⟩<;>omega
  ·have:=ht.top h i hh g1 g3
   rw [g2,Int.toNat_natCast] at this
   omega
theorem zRU {n:Nw} {cs:List (Int×Int)} (ho:CrW n cs):Tr n (zLL n cs) fun a i=>zJ3 n cs a i=true :=
 (Tr.begN ho n.h.toNat (Nat.le_refl _)).same fun a i ha _=>⟨fun h=>h.2,fun h=>⟨ha,h⟩⟩
end Go.Eng
set_option maxRecDepth 10000
set_option maxHeartbeats 4000000
namespace Go.Eng
open Go Go.Proofs
theorem zRX {n:Nw} (ho:NwOk n) {i j:Nat} (hi:i<n.n.length) (hj:j<n.n.length) (hc:chn n j i):(zAW n).getD j 0=(zAW n).getD i 0:=by
 obtain ⟨a,a1,a2,a3,_,a5⟩:=zHb ho hi
 obtain ⟨b,b1,b2,b3,_,b5⟩:=zHb ho hj
 rw [a1,b1]
 have h1:=a5 b b2 (by unfold chn at *;omega)
 have h2:=b5 a a2 (by unfold chn at *;omega)
 omega
theorem zQl {n:Nw} (ho:NwOk n) {i:Nat} (hi:i<n.n.length) (hn:∀ k,k<n.n.length→(n.n.getD k default).1≠i):(zAW n).getD i 0=i:=by
 obtain ⟨a,a1,a2,a3,a4,_⟩:=zHb ho hi
 rw [a1]
 by_cases e:a=i
 ·rw [e]
 ·obtain ⟨k,_,_,h3,h4,_⟩:=zLI ho a i (by omega) a2 a3.symm
  exact absurd h4 (hn k h3)
section
variable [Yo]
theorem f67 (n:Nw) (ho:NwOk n):∀ (k i:Nat),i<n.n.length→n.n.length-i≤k→FG 67 [nwV n,I i] (I ((zAW n).getD i 0))
 | 0,i,hi,hk=>absurd hi (by omega)
 | k + 1,i,hi,hk=>by
  have uL:=ho.nl
  refine zAe Tryz.f67 ?_
  refine zAd 2<|zAa<|zAi<|zAd 2<|S_a [(0,.n n.n.length)] (ap (lnS ntV n.n) an)<|zAc 1<|zAa<|zAk 0 ?_
  refine zAA (fun j=>j≤n.n.length∧∀ r,r<j→(n.n.getD r default).1≠i) (fun (j:Nat)=>[(10,I (j:Nat))]) (fun j=>n.n.length-j) (0:Nat) ⟨Nat.zero_le _,fun r hr=>absurd hr (Nat.not_lt_zero r)⟩ fun j ⟨hj,ha⟩=>?_
  by_cases jL:j<n.n.length
  ·have hon:(n.n.getD j default).1≠i→∀ r,r<j+1→(n.n.getD r default).1≠i:=fun h r hr=>by
    rcases Nat.lt_succ_iff_lt_or_eq.1 hr with h2 | rfl
    ·exact ha r h2
    ·exact h
   clear ha
   by_cases he:(n.n.getD j default).1=i
   ·obtain ⟨gi,hc⟩:=zQu ho jL he
    have ih:=f67 n ho k j jL (by omega)
    rw [zRX ho hi jL hc] at ih
    refine zAd 1<|zAa<|zAi<|zA8 ((↑j:Int)<(↑n.n.length:Int)) (by omega)<|zAl<|zAi<|zAk 1<|zAd 1<|S_a [(2,.v (PV.agg [I (n.n.getD j default).fst,PV.bool (n.n.getD j default).snd]))] (ap (zCI default (by omega):(List.map ntV n.n)[j]? = some (PV.agg [I (n.n.getD j default).fst,PV.bool (n.n.getD j default).snd])) an)<|zAc 4<|zAa<|zAd 4<|zAa<|zA8 ((n.n.getD j default).fst=(↑i:Int)) (by omega)<|zAd 2<|S_a [(8,.ret (I ((zAW n).getD i 0)) [])] (ap ih an)<|zAc 1<|zAa<|zAn<|E_a [] an (I ((zAW n).getD i 0)) [] rfl rfl
   ·refine zAd 1<|zAa<|zAi<|zA8 ((↑j:Int)<(↑n.n.length:Int)) (by omega)<|zAl<|zAi<|zAk 1<|zAd 1<|S_a [(2,.v (PV.agg [I (n.n.getD j default).fst,PV.bool (n.n.getD j default).snd]))] (ap (zCI default (by omega):(List.map ntV n.n)[j]? = some (PV.agg [I (n.n.getD j default).fst,PV.bool (n.n.getD j default).snd])) an)<|zAc 4<|zAa<|zAd 4<|zAa<|zBk ((n.n.getD j default).fst=(↑i:Int)) (by omega)<|zAl<|zAg<|S_a [(1,.v (I (↑(j+1):Int)))] (ap (wrN j) an)<|zAc 1<|zAa ?_
    exact ⟨j+1,⟨by omega,hon he⟩,by omega,by kernel_rfl,by kernel_rfl⟩
  ·rw [zQl ho hi fun r hr=>ha r (by omega)]
   clear ha
   refine zAd 1<|zAa<|zAi<|zBk ((↑j:Int)<(↑n.n.length:Int)) (by omega)<|zAS 0<|zAd 2<|zAa<|zAn<|E_a [] an (I (↑i:Int)) [] rfl rfl
theorem f50_ex (n:Nw) (l:List Int) (a:Nat) (t most:Int) (ho:NwOk n) (h:zDQ l a) (hm:0≤most∧most≤16):∃ v h',zBD Tryz.prog zCM 50 [zPF,nwV n,I most] [zB2 l a t] v h'∧∃ (cs:List (Int×Int)) (a':Nat) (t':Int),v = .own 2 (cs.map prV)∧h'=[zB2 l a' t']∧(cs.length:Int)≤most∧(∀ c∈cs,(0≤c.1∧c.1<n.n.length)∧(0≤c.2∧c.2<n.s.length))∧zDQ l a':=by
 have uL:=ho.nl
 have hs6:=ho.sl
 have g1:=zCt h
 have s1:=zCB l a t most
 refine zMI Tryz.f50 _ ?_
 refine zAd 2<|zAa<|zAd 1<|zAa<|zAi<|zAd 2<|S_a [(6,.ret (I (zAp l a t most)) ([zB2 l (zAC l a) (zAI l a t)]))] (ap (f129 l a t most (by omega) (by omega)) an)<|zAc 1<|zAa<|zAk 0 ?_
 have gT:0≤zAp l a t most∧zAp l a t most≤most:=by omega
 generalize zAp l a t most=M at *
 clear s1
 generalize zAI l a t=T0 at *
 generalize zAC l a=A0 at *
 refine zAA (fun (i,q,a,_)=>(i:Int)≤M∧q.length=i∧(∀ c∈q,(0≤c.1∧c.1<n.n.length)∧(0≤c.2∧c.2<n.s.length))∧zDQ l a) (fun ((i:Nat),(q:List (Int×Int)),(a:Nat),(t:Int))=>[(7,.own 2 (q.map prV)),(11,I (i:Nat)),(50000000,zB2 l a t)]) (fun (i,_,_,_)=>M.toNat-i) ((0:Nat),([]:List (Int×Int)),A0,T0) ⟨by omega,rfl,fun c hc=>absurd hc List.not_mem_nil,g1⟩ fun (i,q,a,t) ⟨hiM,ql,hq,ha⟩=>?_
 by_cases yV:(i:Int)<M
 ·have g2:=zCt ha
  have g3:=zCt g2
  have s2:=zCB l a t ((n.n.length-1:Nat):Int)
  have s3:=zCB l (zAC l a) (zAI l a t) ((n.s.length-1:Nat):Int)
  have kF:∀ c∈q++[(zAp l a t ((n.n.length-1:Nat):Int),zAp l (zAC l a) (zAI l a t) ((n.s.length-1:Nat):Int))],(0≤c.1∧c.1<n.n.length)∧(0≤c.2∧c.2<n.s.length):=fun c hc=>by
   rcases List.mem_append.1 hc with hc | hc
   ·exact hq c hc
   ·rw [List.mem_singleton] at hc;subst hc;simp only;omega
  clear hq
  refine zAd 1<|zAa<|zAi<|zA8 ((↑i:Int)<M) (by omega)<|zAl<|zAi<|zAk 1<|zAg<|zAc 4<|S_a [(0,.n n.n.length)] (ap (lnS ntV n.n) an)<|S_a [(1,.v (I (↑(n.n.length-1):Int)))] (ap ((zCe (by omega) (by omega)):I (IntKind.i64.wrap ((↑n.n.length:Int)-1))=I (↑(n.n.length-1):Int)) an)<|S_a [(6,.ret (I (zAp l a t (↑(n.n.length-1):Int))) ([zB2 l (zAC l a) (zAI l a t)]))] (ap (f129 l a t ((↑(n.n.length-1):Int)) (by omega) (by omega)) an)<|zAc 3<|S_a [(0,.n n.s.length)] (ap (lnS zA9 n.s) an)<|S_a [(1,.v (I (↑(n.s.length-1):Int)))] (ap ((zCe (by omega) (by omega)):I (IntKind.i64.wrap ((↑n.s.length:Int)-1))=I (↑(n.s.length-1):Int)) an)<|S_a [(6,.ret (I (zAp l (zAC l a) (zAI l a t) (↑(n.s.length-1):Int))) ([zB2 l (zAC l (zAC l a)) (zAI l (zAC l a) (zAI l a t))]))] (ap (f129 l (zAC l a) (zAI l a t) ((↑(n.s.length-1):Int)) (by omega) (by omega)) an)<|zAc 2<|S_a [(4,.ob),(0,.ob),(0,.yes),(2,.v (PV.own 2 (List.map prV (q++[(zAp l a t (↑(n.n.length-1):Int),zAp l (zAC l a) (zAI l a t) (↑(n.s.length-1):Int))]))))] (ap (blz (List.map prV q))<|ap ((by exact zA0 (by simp only [List.length_map,zzLn,zAU]<;>omega)):((List.map prV q).length + [PV.agg [I (zAp l a t (↑(n.n.length-1):Int)),I (zAp l (zAC l a) (zAI l a t) (↑(n.s.length-1):Int))]].length).ble zAU=true)<|ap ((by exact zBB (by simp<;>omega)):(0+(List.map prV q).length).beq (List.map prV q).length=true)<|ap ((zAY (zBE (by kernel_rfl))):PV.own 2 (List.map prV q++[PV.agg [I (zAp l a t (↑(n.n.length-1):Int)),I (zAp l (zAC l a) (zAI l a t) (↑(n.s.length-1):Int))]])=PV.own 2 (List.map prV (q++[(zAp l a t (↑(n.n.length-1):Int),zAp l (zAC l a) (zAI l a t) (↑(n.s.length-1):Int))]))) an)<|zAc 1<|zAa<|zAg<|S_a [(1,.v (I (↑(i+1):Int)))] (ap (wrN i) an)<|zAc 1<|zAa ?_
  exact ⟨(i+1,q++[(zAp l a t ((n.n.length-1:Nat):Int),zAp l (zAC l a) (zAI l a t) ((n.s.length-1:Nat):Int))],zAC l (zAC l a),zAI l (zAC l a) (zAI l a t)),⟨by omega,by rw [List.length_append,ql];rfl,kF,g3⟩,by simp only;omega,by kernel_rfl,by kernel_rfl⟩
 ·refine zAd 1<|zAa<|zAi<|zBk ((↑i:Int)<M) (by omega)<|zAS 0<|zAd 1<|S_a [(2,.yes)] (ap ((by exact zBB (by simp<;>omega)):(Nat.beq 0 0&&(List.map prV q).length.beq (List.map prV q).length)=true) an)<|zAa<|zAn<|E_q [(1,.yes),(1,.v (PV.own 2 (List.map prV q)))] (ap (blz (List.map prV q))<|ap ((zAY zBi):PV.own 2 (List.take (List.map prV q).length (List.drop 0 (List.map prV q)))=PV.own 2 (List.map prV q)) an) (PV.own 2 (List.map prV q)) ([(PV.agg [PV.sl (List.map u8 l),I (↑a:Int),PV.int IntKind.u32 t]).box]) ?_
  exact ⟨q,a,t,rfl,rfl,by omega,hq,ha⟩
end
end Go.Eng
set_option maxRecDepth 10000
set_option maxHeartbeats 4000000
namespace Go.Eng
open Go Go.Proofs
end Go.Eng
set_option maxRecDepth 100000
set_option maxHeartbeats 4000000
namespace Go.Eng
open Go Go.Proofs
def zDU:Nw:=⟨4,[(0,1),(1,2),(2,3)],[(-1,false),(0,true)],[[0],[0,3]]⟩
def zFg:List (Int×Int):=[(0,1),(1,0)]
def zJG:List (Int×Int):=[(2,0),(3,0)]
theorem zUD:NwOk zDU:=zVv (by decide +kernel)
theorem zKz:CrOk zDU zFg:=zVT (by decide +kernel)
theorem zN7:zB0 zDU (zBl zDU zFg (1:Int).toNat)=zJG:=by decide +kernel
theorem zVQ:OffOk zDU zFg 1 [0,1]:=⟨by decide +kernel,zSP (by decide +kernel),by decide,by decide⟩
theorem zXe:zIj zDU (zBl zDU (zFg++[(1,0)]) (1:Int).toNat) zJG=[]:=by decide +kernel
theorem zWP:zIj zDU (zBl zDU (zFg++[(1,1)]) (1:Int).toNat) zJG=zJG:=by decide +kernel
def zZo:List (PV×PV):=[(.agg [I 1,I 0],.sl []),(.agg [I 1,I 1],.sl (zJG.map prV))]
abbrev zQJ:List PV:=[.addr 50000000 [] 0 0 none,.addr 50000001 [] 0 0 none,.addr 50000002 [] 0 0 none,.addr 50000003 [] 0 0 none,.addr 50000004 [] 0 0 none]
abbrev zRL (b:Bool) (l:List PV):List PV:=[.box (.bool b),.box (.own 2 l),.box (.own 2 [prV (1,0),prV (1,1)]),.box (.omap [(prV (1,0),.sl []),(prV (1,1),prs zJG)]),.box (.func 187 [] zQJ)]
theorem zPP:zBD Tryz.prog zCM 187 (.nils 0::prs zJG::zQJ) (zRL false []) (.tup []) (zRL true [prV (1,1)]):=zBD.closed 60
theorem zQI:FG 134 [zDN zDU zFg,.agg [zY3 zDU zFg 1 zJG],prs zJG,I 0,zA9 [0,1]] (.tup [.own 2 [.agg [I 1,I 1]],.bool true]):=by
 have h0:FG 173 [.agg [I 1,I 0],.ref (zDN zDU zFg),.ref (prs zJG),.ref (I 1)] (.sl []):=by
  have:=f173 zDU zFg zJG 1 (1,0) zKz.w (by decide) (by decide) (by decide) (by decide) (by decide)
  rw [zXe] at this;exact this
 have h1:FG 173 [.agg [I 1,I 1],.ref (zDN zDU zFg),.ref (prs zJG),.ref (I 1)] (.sl (zJG.map prV)):=by
  have:=f173 zDU zFg zJG 1 (1,1) zKz.w (by decide) (by decide) (by decide) (by decide) (by decide)
  rw [zWP] at this;exact this
 refine zAe Tryz.f134 ?_
 refine zAd 3<|zAa<|zAd 3<|zAa<|zAd 1<|zAa<|zAi<|zAd 1<|zAc 1<|zAc 1<|zAa<|zAk 0 ?_
 refine zAA (fun j=>j≤2) (fun (j:Nat)=>[(12,.box (.omap (zZo.take j))),(13,.box (.own 2 (([(1,0),(1,1)]:List (Int×Int)).take j |>.map prV))),(23,I (j:Nat))]) (fun j=>2-j) (0:Nat) (by omega) fun j hj=>?_
 have hj3:j=0∨j=1∨j=2:=by omega
 rcases hj3 with e | e | e
 ·subst e
  refine zAd 1<|zAa<|zAi<|zDR<|zAl<|zAi<|zAk 1<|zAd 3<|zAa<|zAd 10<|zAa<|zAg<|zAc 2<|zAc 1<|zAc 6<|S_a [(9,.ret (PV.sl []) [])] (ap h0 an)<|zAc 4<|zAa<|zAg<|zAc 2<|zAa ?_
  exact ⟨1,by omega,by omega,by kernel_rfl,by kernel_rfl⟩
 ·subst e
  refine zAd 1<|zAa<|zAi<|zDR<|zAl<|zAi<|zAk 1<|zAd 3<|zAa<|zAd 10<|zAa<|zAg<|zAc 2<|zAc 1<|zAc 6<|S_a [(9,.ret (prs zJG) [])] (ap h1 an)<|zAc 4<|zAa<|zAg<|zAc 2<|zAa ?_
  exact ⟨2,by omega,by omega,by kernel_rfl,by kernel_rfl⟩
 ·subst e
  have ya:=zPP
  refine zAd 1<|zAa<|zAi<|zAG<|zAS 0<|zAd 1<|zAa<|zAd 2<|zAa<|zAd 1<|zAa<|zAd 2<|zAa<|zAd 2<|S_a [(8,.ret (PV.tup []) (zRL true [prV (1,1)]))] (ap ya an)<|zAa<|zAd 1<|zAc 1<|zAc 1<|zAc 1<|zAa<|zAn<|E_a [] an (PV.tup [PV.own 2 [PV.agg [I (1,1).fst,I (1,1).snd]],PV.bool true]) [] rfl rfl
theorem zP3:FG 57 [nwV zDU,prs zFg,I 1,zA9 [0,1]] (.tup [.own 2 [.agg [I 1,I 1]],I 0]):=by
 have ho:=f121_1 zDU zFg 1 [0,1] zVQ (by decide)
 rw [zN7] at ho
 have LC:FG 135 [zDN zDU zFg,prs zJG,I 0] (.own 2 (zJG.map prV)):=by
  have:=f135 zDU zFg zJG 0 zUD (by decide) (by decide)
  rwa [show ofL zDU 0 zJG=zJG from by decide +kernel] at this
 have hc:=zQI
 refine zAe Tryz.f57 ?_
 refine zAd 3<|zAa<|zAd 4<|S_a [(12,.ret (PV.tup [zDN zDU zFg,prs zJG,PV.agg [zY3 zDU zFg 1 zJG],I 0]) [])] (ap ho an)<|zAc 10<|zAa<|zAi<|zAd 2<|zAa<|zAG<|zAl<|zAd 1<|zAa<|zAi<|zAd 2<|zAc 1<|zAc 1<|zAa<|zAk 0 ?_
 refine zAA (fun j=>j≤2) (fun (j:Nat)=>[(14,.own 2 (([(1,1)]:List (Int×Int)).take j |>.map prV)),(34,I (j:Nat))]) (fun j=>2-j) (0:Nat) (by omega) fun j hj=>?_
 have hj3:j=0∨j=1∨j=2:=by omega
 rcases hj3 with e | e | e
 ·subst e
  refine zAd 1<|zAa<|zAi<|zDR<|zAl<|zAi<|zAk 1<|zAd 2<|zAa<|zAi<|zAd 8<|zAa<|zAG<|zAl<|zAd 5<|S_a [(9,.ret (PV.own 2 (List.map prV zJG)) [])] (ap LC an)<|zAc 2<|S_a [(14,.ret (PV.tup [PV.own 2 [PV.agg [I 1,I 1]],PV.bool true]) [])] (ap hc an)<|zAc 5<|zAa<|zAi<|zAd 2<|zAa<|zAG<|zAl<|zAg<|zAc 4<|zAa<|zAg<|zAc 2<|zAa ?_
  exact ⟨1,by omega,by omega,by kernel_rfl,by kernel_rfl⟩
 ·subst e
  refine zAd 1<|zAa<|zAi<|zDR<|zAl<|zAi<|zAk 1<|zAd 2<|zAa<|zAi<|zAd 8<|zAa<|zDR<|zAS 1<|zAg<|zAc 2<|zAa ?_
  exact ⟨2,by omega,by omega,by kernel_rfl,by kernel_rfl⟩
 ·subst e
  refine zAd 1<|zAa<|zAi<|zAG<|zAS 0<|zAd 3<|zAa<|zAn<|E_a [] an (PV.tup [PV.own 2 [PV.agg [I (1,1).fst,I (1,1).snd]],I 0]) [] rfl rfl
end Go.Eng
set_option maxRecDepth 10000
set_option maxHeartbeats 4000000
namespace Go.Eng
open Go Go.Proofs
theorem f38_2 (n:Nw) (cs:List (Int×Int)) (h:Int) (x:Int) (ho:CrOk n cs) (hh:0≤h∧h<n.h) (hx:0≤x∧x<n.n.length) (hm:∀ j,j≤12→(zBl n cs j).getD (h.toNat*8+((zAh n).getD x.toNat 0).toNat) 0≠x):FG 38 [nwV n,prs cs,I h,I x] (.tup [.own 1 [],I 6]):=by
 have hn:=ho.nw
 have vQ:=ho.w
 have hb:=hn.h
 have uL:=hn.nl
 have hin:inB x 0 (n.n.length-1)=true:=by simp only [inB,Bool.and_eq_true,decide_eq_true_eq];omega
 have hih:inB h 0 (n.h-1)=true:=by simp only [inB,Bool.and_eq_true,decide_eq_true_eq];omega
 have qn:=zBz hn x.toNat (by omega)
 refine zAe Tryz.f38 ?_
 refine zAd 4<|zAa<|zAd 2<|S_a [(8,.ret (PV.tup [zDN n cs,I 0]) [])] (ap (f99_1 n cs (by omega)) an)<|zAc 5<|zAa<|zAi<|zAk 0<|zAd 3<|zAa<|zAG<|zAd 2<|S_a [(8,.ret (PV.bool (inB h 0 (n.h-1))) [])] (ap (f109 n h (by omega)) an)<|zAc 2<|zGi 32 (!inB h 0 (n.h-1)) (fun k0=>(zAc 6<|zAa<|zDR<|zAd 2<|zAa<|zAn<|E_a [] an (PV.tup [PV.own 1 [],I 1]) [] ?_ rfl)) (fun k0=>(zAc 2<|S_a [(8,.ret (PV.bool (inB x 0 ((↑n.n.length:Int)-1))) [])] (ap (f106 n x (by first | omega | (simp<;>omega))) an)<|zAc 3<|zAa<|zFe (!inB x 0 ((↑n.n.length:Int)-1)) (fun k1=>(zAd 2<|zAa<|zAn<|E_a [] an (PV.tup [PV.own 1 [],I 1]) [] ?_ rfl)) (fun k1=>(zAl<|zAd 4<|S_a [(0,.ob),(1,.ob),(0,.v ((I ((zAh n).getD x.toNat 0)).ref))] (ap ((by exact zAs (by omega)):decide (0≤x)=true)<|ap ((by exact zAs (by omega)):decide (x.toNat<8)=true)<|ap (zGr (F:=zAh n) (m:=8) (j:=x.toNat) (by omega):zCl (PV.agg (zAM (zAh n) 8)).ref (x.toNat*(fun x=>x.size) Tryz.prog.types[3]) none=some (I ((zAh n).getD x.toNat 0)).ref) an)<|zAc 3<|zAa<|zAd 1<|S_a [(5,.ret (hdV (zLL n cs)) [])] (ap (f100 n cs (by omega)) an)<|zAc 3<|zAa<|zAi<|zAk 1 ?_))))
 ·exact absurd (by assumption:(!inB h 0 (n.h-1))=true) (by rw [hih];simp)
 ·exact absurd (by assumption:(!inB x 0 (n.n.length-1))=true) (by rw [hin];simp)
 ·generalize hc:((zAh n).getD x.toNat 0)=c at *
  refine zAA (fun (j,S)=>j≤12∧S=zRx n cs (j+1)) (fun (j,S)=>[(13,zUl S)]) (fun (j,_)=>12-j) ((0:Nat),[zLL n cs]) ⟨by omega,rfl⟩ fun (j,S) ⟨hj,hS⟩=>?_
  have wa:S.length=j+1:=by rw [hS];simp [zRx]
  have qH:S.getD (S.length-1) []=zBl n cs j:=by rw [wa,hS];exact zLe (by omega)
  have gk:(S.getD (S.length-1) []).length=80:=by rw [qH];exact zB6 j
  have hI:=hm j hj
  rw [← qH] at hI
  have hSS:S++[zCZ n (S.getD (S.length-1) [])]=zRx n cs (j+1+1):=by rw [zMb (k:=j+1),← hS,qH];rfl
  by_cases gl:j<12
  ·refine zAi<|zAi<|zAg<|S_a [(1,.v (PV.bor 13 [(0,0)] 80 0 S.length))] (ap ((by simp):PV.bor 13 [(0,0)] 80 0 (List.map hdV S).length=PV.bor 13 [(0,0)] 80 0 S.length) an)<|S_a [(1,.v (PV.bor 13 [(0,0)] 80 0 S.length))] (ap ((by simp):PV.bor 13 [(0,0)] 80 0 (List.map hdV S).length=PV.bor 13 [(0,0)] 80 0 S.length) an)<|zAc 1<|S_a [(1,.v (I (↑(S.length-1):Int)))] (ap ((zCe (by omega) (by omega)):I (IntKind.i64.wrap ((↑S.length:Int)-1))=I (↑(S.length-1):Int)) an)<|zAc 2<|S_a [(2,.ob),(1,.n (S.length-1))] (ap ((by exact zAs (by omega)):decide (S.length-1<S.length)=true)<|ap ((by simp):some (0+(S.length-1))=some (S.length-1)) an)<|S_a [(0,.ob),(1,.ob)] (ap ((by exact zAs (by omega)):decide (0≤h)=true)<|ap ((by exact zAs (by omega)):decide (h.toNat<10)=true) an)<|S_a [(0,.ob),(1,.ob)] (ap ((by exact zAs (by omega)):decide (0≤c)=true)<|ap ((by exact zAs (by omega)):decide (c.toNat<8)=true) an)<|S_a [(0,.cs true ([I ((S.getD (S.length-1) []).getD (h.toNat*8+c.toNat) 0)]))] (ap (zC8 (q:=PV.own 80 (List.map hdV S)) (xs:=List.map hdV S) (x:=PV.agg (zAM (S.getD (S.length-1) []) 80)) (zL5 (xs:=[PV.own 80 (List.map hdV S)]) (x:=PV.own 80 (List.map hdV S)) (y:=PV.own 80 (List.map hdV S)) rfl rfl) (zCI [] (by omega)) (zES (F:=S.getD (S.length-1) []) (m:=80) (j:=h.toNat*8+c.toNat) (by first | rfl | exact zBT (by kernel_rfl) | exact zBW (by kernel_rfl) | exact zC9 (by kernel_rfl) (by kernel_rfl) | exact zC3 (by kernel_rfl) | exact zDq (by kernel_rfl) (by kernel_rfl) | exact zDh (by kernel_rfl) | (simp;done)) (by omega)):zAr 13 (PV.own 80 (List.map hdV S)).box [(0,0)] (S.length-1) (0+h.toNat*(fun x=>x.size) Tryz.prog.types[128]+c.toNat*(fun x=>x.size) Tryz.prog.types[3]) 1=some (true,[I ((S.getD (S.length-1) []).getD (h.toNat*8+c.toNat) 0)])) an)<|zAc 2<|zAa<|zIK ((S.getD (S.length-1) []).getD (h.toNat*8+c.toNat) 0=x) (by omega)<|zAl<|zAk 2<|zAi<|zAi<|zAg<|S_a [(1,.v (PV.bor 13 [(0,0)] 80 0 S.length))] (ap ((by simp):PV.bor 13 [(0,0)] 80 0 (List.map hdV S).length=PV.bor 13 [(0,0)] 80 0 S.length) an)<|zAc 2<|zAa<|zBk ((↑S.length:Int)>12) (by omega)<|zAl<|zAg<|S_a [(1,.v (PV.bor 13 [(0,0)] 80 0 S.length))] (ap ((by simp):PV.bor 13 [(0,0)] 80 0 (List.map hdV S).length=PV.bor 13 [(0,0)] 80 0 S.length) an)<|zAc 1<|S_a [(1,.v (PV.bor 13 [(0,0)] 80 0 S.length))] (ap ((by simp):PV.bor 13 [(0,0)] 80 0 (List.map hdV S).length=PV.bor 13 [(0,0)] 80 0 S.length) an)<|S_a [(1,.v (PV.bor 13 [(0,0)] 80 0 S.length))] (ap ((by simp):PV.bor 13 [(0,0)] 80 0 (List.map hdV S).length=PV.bor 13 [(0,0)] 80 0 S.length) an)<|zAc 1<|S_a [(1,.v (I (↑(S.length-1):Int)))] (ap ((zCe (by omega) (by omega)):I (IntKind.i64.wrap ((↑S.length:Int)-1))=I (↑(S.length-1):Int)) an)<|S_a [(2,.ob),(1,.n (S.length-1))] (ap ((by exact zAs (by omega)):decide (S.length-1<S.length)=true)<|ap ((by simp):some (0+(S.length-1))=some (S.length-1)) an)<|S_a [(0,.cs true (zAM (S.getD (S.length-1) []) 80))] (ap (zC8 (q:=PV.own 80 (List.map hdV S)) (xs:=List.map hdV S) (x:=PV.agg (zAM (S.getD (S.length-1) []) 80)) (zL5 (xs:=[PV.own 80 (List.map hdV S)]) (x:=PV.own 80 (List.map hdV S)) (y:=PV.own 80 (List.map hdV S)) rfl rfl) (zCI [] (by omega)):zAr 13 (PV.own 80 (List.map hdV S)).box [(0,0)] (S.length-1) 0 Tryz.prog.types[130].size=some (true,zAM (S.getD (S.length-1) []) 80)) an)<|S_a [(7,.ret (hdV (zCZ n (S.getD (S.length-1) []))) [])] (ap (f101 n cs (S.getD (S.length-1) []) (by omega) (by omega)) an)<|zAc 1<|S_a [(4,.ob),(0,.ob),(0,.yes),(2,.v (PV.own 80 (List.map hdV (S++[zCZ n (S.getD (S.length-1) [])]))))] (ap ((by exact zA0 (by simp only [List.length_map,zzLn,zAU]<;>omega)):(0+S.length).ble (List.map hdV S).length=true)<|ap ((by exact zA0 (by simp only [List.length_map,zzLn,zAU]<;>omega)):((List.map hdV S).length + [PV.agg (zAM (zCZ n (S.getD (S.length-1) [])) 80)].length).ble zAU=true)<|ap ((by exact zBB (by simp<;>omega)):(0+S.length).beq (List.map hdV S).length=true)<|ap ((zAY (zBE (by kernel_rfl))):PV.own 80 (List.map hdV S++[PV.agg (zAM (zCZ n (S.getD (S.length-1) [])) 80)])=PV.own 80 (List.map hdV (S++[zCZ n (S.getD (S.length-1) [])]))) an)<|zAc 1<|zAa ?_
   exact ⟨(j+1,S++[zCZ n (S.getD (S.length-1) [])]),⟨by omega,hSS⟩,by simp only;omega,by kernel_rfl,by kernel_rfl⟩
  ·refine zAi<|zAi<|zAg<|S_a [(1,.v (PV.bor 13 [(0,0)] 80 0 S.length))] (ap ((by simp):PV.bor 13 [(0,0)] 80 0 (List.map hdV S).length=PV.bor 13 [(0,0)] 80 0 S.length) an)<|S_a [(1,.v (PV.bor 13 [(0,0)] 80 0 S.length))] (ap ((by simp):PV.bor 13 [(0,0)] 80 0 (List.map hdV S).length=PV.bor 13 [(0,0)] 80 0 S.length) an)<|zAc 1<|S_a [(1,.v (I (↑(S.length-1):Int)))] (ap ((zCe (by omega) (by omega)):I (IntKind.i64.wrap ((↑S.length:Int)-1))=I (↑(S.length-1):Int)) an)<|zAc 2<|S_a [(2,.ob),(1,.n (S.length-1))] (ap ((by exact zAs (by omega)):decide (S.length-1<S.length)=true)<|ap ((by simp):some (0+(S.length-1))=some (S.length-1)) an)<|S_a [(0,.ob),(1,.ob)] (ap ((by exact zAs (by omega)):decide (0≤h)=true)<|ap ((by exact zAs (by omega)):decide (h.toNat<10)=true) an)<|S_a [(0,.ob),(1,.ob)] (ap ((by exact zAs (by omega)):decide (0≤c)=true)<|ap ((by exact zAs (by omega)):decide (c.toNat<8)=true) an)<|S_a [(0,.cs true ([I ((S.getD (S.length-1) []).getD (h.toNat*8+c.toNat) 0)]))] (ap (zC8 (q:=PV.own 80 (List.map hdV S)) (xs:=List.map hdV S) (x:=PV.agg (zAM (S.getD (S.length-1) []) 80)) (zL5 (xs:=[PV.own 80 (List.map hdV S)]) (x:=PV.own 80 (List.map hdV S)) (y:=PV.own 80 (List.map hdV S)) rfl rfl) (zCI [] (by omega)) (zES (F:=S.getD (S.length-1) []) (m:=80) (j:=h.toNat*8+c.toNat) (by first | rfl | exact zBT (by kernel_rfl) | exact zBW (by kernel_rfl) | exact zC9 (by kernel_rfl) (by kernel_rfl) | exact zC3 (by kernel_rfl) | exact zDq (by kernel_rfl) (by kernel_rfl) | exact zDh (by kernel_rfl) | (simp;done)) (by omega)):zAr 13 (PV.own 80 (List.map hdV S)).box [(0,0)] (S.length-1) (0+h.toNat*(fun x=>x.size) Tryz.prog.types[128]+c.toNat*(fun x=>x.size) Tryz.prog.types[3]) 1=some (true,[I ((S.getD (S.length-1) []).getD (h.toNat*8+c.toNat) 0)])) an)<|zAc 2<|zAa<|zIK ((S.getD (S.length-1) []).getD (h.toNat*8+c.toNat) 0=x) (by omega)<|zAl<|zAk 2<|zAi<|zAi<|zAg<|S_a [(1,.v (PV.bor 13 [(0,0)] 80 0 S.length))] (ap ((by simp):PV.bor 13 [(0,0)] 80 0 (List.map hdV S).length=PV.bor 13 [(0,0)] 80 0 S.length) an)<|zAc 2<|zAa<|zA8 ((↑S.length:Int)>12) (by omega)<|zAd 2<|zAa<|zAn<|E_a [] an (PV.tup [PV.own 1 [],I 6]) [] rfl rfl
end Go.Eng
set_option maxRecDepth 100000
set_option maxHeartbeats 4000000
namespace Go.Eng
open Go Go.Proofs
theorem zVi:FG 83 [] (.tup [nwO zDU,.own 2 (zFg.map prV)]):=zBD.closed 20
theorem zS6:FG 22 [nwV zDU,prs zFg,I 1] (.tup [.own 2 [.agg [I 2,I 0],.agg [I 3,I 0]],I 0]):=by
 have:=f22_1 zDU zFg 1 (zSP (by decide +kernel))
 rw [zN7] at this;exact this
theorem zNT:FG 29 [nwV zDU,prs zFg] (.tup [I 3,I 0]):=f29_1 zDU zFg 3 zKz (by decide) (by decide +kernel) (by decide +kernel)
theorem zTK:FG 38 [nwV zDU,prs zFg,I 2,I 0] (.tup [.own 1 [I 3,I 2],I 0]):=by
 have:=f38_1 zDU zFg 2 0 1 zKz (by decide) (by decide) (by decide) (by decide +kernel) (by decide +kernel)
 rw [show bkL zDU zFg ((zAh zDU).getD (0:Int).toNat 0).toNat 0 1 [2]=[3,2] from by decide +kernel] at this;exact this
theorem zWi:FG 38 [nwV zDU,prs zFg,I 1,I 0] (.tup [.own 1 [],I 6]):=f38_2 zDU zFg 1 0 zKz (by decide) (by decide) (by decide +kernel)
theorem zSs:FG 31 [nwV zDU,prs zFg] (.tup [I 3,I 0]):=by
 have:=f31_1 zDU zFg zKz
 rw [if_pos (show zB0 zDU (zBl zDU zFg 12)=[] from by decide +kernel),if_pos (show zB0 zDU (zBl zDU zFg 12)=[] from by decide +kernel),show zUV zDU zFg 12=3 from by decide +kernel] at this;exact this
theorem zPJ:FG 26 [nwV zDU,prs zFg,I 0] (.tup [.own 1 [I 3],I 0]):=by
 have:=f26_1 zDU zFg 0 (zSP (by decide +kernel))
 rw [show zGI (msl zDU (zB0 zDU (zBl zDU zFg (0:Int).toNat)))=[3] from by decide +kernel] at this;exact this
theorem zQQ:FG 86 [nwV zDU] (.tup [.own 1 [],I 0]):=by
 have:=f86_1 zDU zUD
 rw [show zBR (zT8 zDU) zDU.n.length=[] from by decide +kernel] at this;exact this
theorem f17:FG 17 [] (.bool true):=by
 have h1:=zVi
 have h2:=zS6
 have h3:=zNT
 have h4:=zTK
 have h5:=zWi
 have h6:=zP3
 have h7:=zSs
 have h8:=zPJ
 have h9:=zQQ
 have l1:FG 78 [.sl [.agg [I 2,I 0],.agg [I 3,I 0]],.sl [.agg [I 2,I 0],.agg [I 3,I 0]]] (.bool true):=f78 [(2,0),(3,0)] [(2,0),(3,0)] (by decide)
 have l2:FG 28 [.sl [I 3,I 2],.sl [I 3,I 2]] (.bool true):=f28 [3,2] [3,2] (by decide)
 have l3:FG 34 [.sl [.agg [I 1,I 1]],.sl [.agg [I 1,I 1]]] (.bool true):=f34 [(1,1)] [(1,1)] (by decide)
 have l4:FG 28 [.sl [I 3],.sl [I 3]] (.bool true):=f28 [3] [3] (by decide)
 refine zAe Tryz.f17 ?_
 refine zAd 1<|zAa<|zAi<|zAg<|S_a [(4,.ret (PV.tup [nwO zDU,PV.own 2 (List.map prV zFg)]) [])] (ap h1 an)<|zAc 6<|zAa<|zAd 2<|S_a [(21,.ret (PV.tup [PV.own 2 [PV.agg [I 2,I 0],PV.agg [I 3,I 0]],I 0]) [])] (ap h2 an)<|zAc 5<|zAa<|zAd 2<|S_a [(19,.ret (PV.tup [I 3,I 0]) [])] (ap h3 an)<|zAc 5<|zAa<|zAd 2<|S_a [(23,.ret (PV.tup [PV.own 1 [I 3,I 2],I 0]) [])] (ap h4 an)<|zAc 5<|zAa<|zAd 2<|S_a [(23,.ret (PV.tup [PV.own 1 [],I 6]) [])] (ap h5 an)<|zAc 5<|zAa<|zAi<|zAd 19<|S_a [(10,.ret (PV.bool true) [])] (ap l1 an)<|zAc 9<|S_a [(10,.ret (PV.bool true) [])] (ap l2 an)<|zAc 2<|zAa<|zAG<|zAl<|zAd 3<|S_a [(24,.ret (PV.tup [PV.own 2 [PV.agg [I 1,I 1]],I 0]) [])] (ap h6 an)<|zAc 5<|zAa<|zAd 2<|S_a [(19,.ret (PV.tup [I 3,I 0]) [])] (ap h7 an)<|zAc 5<|zAa<|zAd 2<|S_a [(21,.ret (PV.tup [PV.own 1 [I 3],I 0]) [])] (ap h8 an)<|zAc 5<|zAa<|zAd 1<|S_a [(16,.ret (PV.tup [PV.own 1 [],I 0]) [])] (ap h9 an)<|zAc 5<|zAa<|zAd 18<|S_a [(10,.ret (PV.bool true) [])] (ap l3 an)<|zAc 8<|S_a [(10,.ret (PV.bool true) [])] (ap l4 an)<|zAc 3<|zAc 4<|zAa<|zAn<|E_a [] an (PV.bool true) [] rfl rfl
end Go.Eng
set_option maxRecDepth 10000
set_option maxHeartbeats 4000000
namespace Go.Eng
open Go Go.Proofs
theorem zW0 {n:Nw} {cs:List (Int×Int)} (h:zGp n=0) (hl:cs.length≤16) (hc:∀ c∈cs,(0≤c.1∧c.1<n.n.length)∧(0≤c.2∧c.2<n.s.length)):CrOk n cs:=by
 refine zVT ?_
 have ha:(cs.all fun c=>zIg n c)=true:=List.all_eq_true.2 fun c hm=>by
  have:=hc c hm
  simp only [zIg,inB,Bool.and_eq_true,decide_eq_true_eq];omega
 have wL:¬ (cs.length:Int)>16:=by omega
 simp only [zP6,h,wL,ha,if_true,if_false];rfl
theorem zWu {n:Nw} {cs:List (Int×Int)} {e:Int} (h:CrOk n cs) (he:0≤e∧e≤12):EvOk n cs e:=by
 refine zSP ?_
 have hi:inB e 0 12=true:=by simp only [inB,Bool.and_eq_true,decide_eq_true_eq];omega
 simp only [zPx,h.err,hi,if_true]
end Go.Eng
set_option maxRecDepth 10000
set_option maxHeartbeats 4000000
namespace Go.Eng
open Go Go.Proofs
section
variable [Yo]
theorem f54 (n:Nw) (x:Int) (ho:NwOk n) (hx:0≤x∧x<n.n.length):FG 54 [nwV n,I x] (I ((zAh n).getD x.toNat 0)):=by
 have uL:=ho.nl
 refine zAe Tryz.f54 ?_
 refine zAd 2<|zAa<|zAi<|zAk 0 ?_
 refine zAA (fun (y:Int)=>∃ m:Nat,y=m∧m<n.n.length∧(zAh n).getD m 0=(zAh n).getD x.toNat 0) (fun y=>[(1,I y)]) (fun y=>y.toNat) x ⟨x.toNat,by omega,by omega,rfl⟩ fun y ⟨m,hy,hm,hc⟩=>?_
 subst hy
 have ham:=ho.na m hm
 have vR:=zGL ho hm
 by_cases hge:(n.n.getD m default).1 = -1
 ·rw [if_pos hge] at vR
  rw [← hc,vR]
  refine zAi<|zAd 3<|S_a [(2,.v (PV.agg [I (n.n.getD m default).fst,PV.bool (n.n.getD m default).snd]))] (ap (zCI default (by omega):(List.map ntV n.n)[m]? = some (PV.agg [I (n.n.getD m default).fst,PV.bool (n.n.getD m default).snd])) an)<|zAc 3<|zAa<|zGE ((n.n.getD m default).fst = -1) (by omega)<|zAS 0<|zAd 2<|zAa<|zAn<|E_a [] an (I (↑m:Int)) [] rfl rfl
 ·rw [if_neg hge] at vR
  refine zAi<|zAd 3<|S_a [(2,.v (PV.agg [I (n.n.getD m default).fst,PV.bool (n.n.getD m default).snd]))] (ap (zCI default (by omega):(List.map ntV n.n)[m]? = some (PV.agg [I (n.n.getD m default).fst,PV.bool (n.n.getD m default).snd])) an)<|zAc 3<|zAa<|zIK ((n.n.getD m default).fst = -1) (by omega)<|zAl<|zAk 1<|zAg<|zAc 3<|S_a [(2,.v (PV.agg [I (n.n.getD m default).fst,PV.bool (n.n.getD m default).snd]))] (ap (zCI default (by omega):(List.map ntV n.n)[m]? = some (PV.agg [I (n.n.getD m default).fst,PV.bool (n.n.getD m default).snd])) an)<|zAc 3<|zAa ?_
  exact ⟨(n.n.getD m default).1,⟨(n.n.getD m default).1.toNat,by omega,by omega,by rw [← vR];exact hc⟩,by omega,by kernel_rfl,by kernel_rfl⟩
end
end Go.Eng
set_option maxHeartbeats 1000000
namespace Go.Eng
open Go
theorem zSo {p:Nat→Bool} {k i:Nat} (hi:i<k):has (zBR p k) (i:Int)=p i:=by
 cases h:p i
 ·refine List.any_eq_false.2 fun y hy=>?_
  obtain ⟨j,h1,h2,h3⟩:=zFK.1 hy
  rw [decide_eq_true_eq]
  intro e
  have:j=i:=by omega
  rw [this,h] at h2;cases h2
 ·exact List.any_eq_true.2 ⟨(i:Int),zFK.2 ⟨i,hi,h,rfl⟩,decide_eq_true rfl⟩
def chL (n:Nw) (x:Int):List Int:=zBR (zF0 n x) n.n.length
def zHw (n:Nw) (x:Int) (cs:List (Int×Int)):List (Int×Int):=cs.filter fun c=>has (chL n x) c.1
theorem zLC {n:Nw} {x:Int} {i:Nat} (hi:i<n.n.length):has (chL n x) (i:Int)=decide ((zAh n).getD i 0=(zAh n).getD x.toNat 0):=zSo hi
theorem zXf {n:Nw} {x:Int} {cs:List (Int×Int)} (ho:CrW n cs):CrW n (zHw n x cs) :=
 ⟨ho.nw,Nat.le_trans (List.length_filter_le _ _) ho.len,fun c hc=>ho.cs c (List.mem_filter.1 hc).1⟩
theorem zK0 {n:Nw} {x:Int} {cs:List (Int×Int)} {h:Int} {i:Nat} (hi:i<n.n.length) :
  zJ3 n (zHw n x cs) h i=(decide ((zAh n).getD i 0=(zAh n).getD x.toNat 0)&&zJ3 n cs h i):=by
 rw [Bool.eq_iff_iff,Bool.and_eq_true]
 simp only [zJ3,zHw,List.any_eq_true,List.mem_filter,decide_eq_true_eq,hrB,Bool.and_eq_true]
 constructor
 ·rintro ⟨c,⟨h1,h2⟩,h3,h4⟩
  rw [h3,zLC hi,decide_eq_true_eq] at h2
  exact ⟨h2,c,h1,h3,h4⟩
 ·rintro ⟨h2,c,h1,h3,h4⟩
  exact ⟨c,⟨h1,by rw [h3,zLC hi,decide_eq_true_eq];exact h2⟩,h3,h4⟩
theorem zRM {n:Nw} {a b:List (Int×Int)} (ho:NwOk n) {c:Nat} (hc:c<8) (h0:∀ h,h<n.h.toNat→∀ v,v≤(zLL n a).getD (h*8+c) 0↔v≤(zLL n b).getD (h*8+c) 0) :
  ∀ e h,h<n.h.toNat→∀ v,v≤(zBl n a e).getD (h*8+c) 0↔v≤(zBl n b e).getD (h*8+c) 0
 | 0=>h0
 | e+1=>fun h hh v=>by
  have ih:=zRM ho hc h0 e
  show v≤(zCZ n (zBl n a e)).getD (h*8+c) 0↔v≤(zCZ n (zBl n b e)).getD (h*8+c) 0
  rw [zNm ho (zB6 e) hh hc,zNm ho (zB6 e) hh hc,ih h hh]
  refine or_congr Iff.rfl ⟨fun ⟨o,h1,h2⟩=>⟨o,h1,(ih o (zJM h1) v).1 h2⟩,fun ⟨o,h1,h2⟩=>⟨o,h1,(ih o (zJM h1) v).2 h2⟩⟩
theorem zOb {n:Nw} {a:List (Int×Int)} (ho:NwOk n) {c:Nat} (hc:c<8) (h0:∀ h,h<n.h.toNat→¬ 0≤(zLL n a).getD (h*8+c) 0) :
  ∀ e h,h<n.h.toNat→¬ 0≤(zBl n a e).getD (h*8+c) 0
 | 0=>h0
 | e+1=>fun h hh=>by
  have ih:=zOb ho hc h0 e
  show ¬ 0≤(zCZ n (zBl n a e)).getD (h*8+c) 0
  rw [zNm ho (zB6 e) hh hc]
  rintro (h1 | ⟨o,h1,h2⟩)
  ·exact ih h hh h1
  ·exact ih o (zJM h1) h2
theorem zVV {n:Nw} {x:Int} {cs:List (Int×Int)} (ho:CrW n cs) (e:Nat) {h c:Nat} (hh:h<n.h.toNat) (hc:c<8) :
  ((c:Int)=(zAh n).getD x.toNat 0→(zBl n (zHw n x cs) e).getD (h*8+c) 0=(zBl n cs e).getD (h*8+c) 0)∧((c:Int)≠(zAh n).getD x.toNat 0→¬ 0≤(zBl n (zHw n x cs) e).getD (h*8+c) 0):=by
 have hw:=zXf (x:=x) ho
 constructor
 ·intro LF
  have:=zRM (a:=zHw n x cs) (b:=cs) ho.nw hc (fun h hh v=>by
   rw [(zRU hw).ge hh hc,(zRU ho).ge hh hc]
   refine or_congr Iff.rfl ⟨fun ⟨i,h1,h2,h3,h4⟩=>⟨i,h1,h2,?_,h4⟩,fun ⟨i,h1,h2,h3,h4⟩=>⟨i,h1,h2,?_,h4⟩⟩
   ·rw [zK0 h1,Bool.and_eq_true] at h3;exact h3.2
   ·rw [zK0 h1,Bool.and_eq_true,decide_eq_true_eq];exact ⟨by rw [h2,LF],h3⟩) e h hh
  have h1:=(this _).1 (Int.le_refl _)
  have h2:=(this _).2 (Int.le_refl _)
  omega
 ·intro LF
  refine zOb ho.nw hc (fun h hh=>?_) e h hh
  rw [(zRU hw).ge hh hc]
  rintro (h1 | ⟨i,h1,h2,h3,_⟩)
  ·omega
  ·rw [zK0 h1,Bool.and_eq_true,decide_eq_true_eq] at h3
   exact LF (by rw [← h2,h3.1])
theorem zW7 {n:Nw} {x:Int} {cs:List (Int×Int)} (ho:CrW n cs) (e:Nat) {h:Nat} (hh:h<n.h.toNat) :
  (hoL n cs e h).filter (fun y=>has (chL n x) y)=hoL n (zHw n x cs) e h∧(hoL n (zHw n x cs) e h).length≤1:=by
 have h8:=ho.nw.nl
 have key:∀ i:Nat,i<n.n.length→((zBl n (zHw n x cs) e).getD (h*8+((zAh n).getD i 0).toNat) 0=i↔(zAh n).getD i 0=(zAh n).getD x.toNat 0∧(zBl n cs e).getD (h*8+((zAh n).getD i 0).toNat) 0=i):=by
  intro i hi
  have hf:=zBz ho.nw i hi
  obtain ⟨g1,g2⟩:=zVV (x:=x) ho e hh (c:=((zAh n).getD i 0).toNat) (by omega)
  rw [Int.toNat_of_nonneg hf.1] at g1 g2
  constructor
  ·intro hq
   by_cases hx:(zAh n).getD i 0=(zAh n).getD x.toNat 0
   ·rw [← g1 hx];exact ⟨hx,hq⟩
   ·exact absurd (by omega) (g2 hx)
  ·rintro ⟨hx,hq⟩
   rw [g1 hx];exact hq
 have vN:∀ ds,(hoL n ds e h).Pairwise (· < ·):=fun ds=>zFm _
 constructor
 ·refine zND ((vN cs).filter _) (vN _) fun y=>?_
  rw [List.mem_filter,zN1,zN1]
  constructor
  ·rintro ⟨⟨i,h1,h2,rfl⟩,h3⟩
   rw [zLC h1,decide_eq_true_eq] at h3
   exact ⟨i,h1,(key i h1).2 ⟨h3,h2⟩,rfl⟩
  ·rintro ⟨i,h1,h2,rfl⟩
   have:=(key i h1).1 h2
   exact ⟨⟨i,h1,this.2,rfl⟩,by rw [zLC h1,decide_eq_true_eq];exact this.1⟩
 ·have h1:∀ y∈hoL n (zHw n x cs) e h,y=(zBl n cs e).getD (h*8+((zAh n).getD x.toNat 0).toNat) 0:=by
   intro y hy
   obtain ⟨i,q1,q2,rfl⟩:=zN1.1 hy
   have:=(key i q1).1 q2
   rw [← this.1];exact this.2.symm
  have h2:=vN (zHw n x cs)
  generalize hoL n (zHw n x cs) e h=l at h1 h2
  match l,h1,h2 with
  | [],_,_=>simp
  | [_],_,_=>simp
  | a::b::l,h1,h2 =>
   rw [List.pairwise_cons] at h2
   have e1:=h1 a (by simp)
   have e2:=h1 b (by simp)
   have:=h2.1 b (by simp)
   omega
theorem zOn {n:Nw} (ho:NwOk n) {i:Nat} (hi:i<n.n.length):∀ (d m:Nat),n.n.length-m=d→m<n.n.length→chn n m i →
  (zBR (zF0 n i) (m+1)).getLast? = some (m:Int)→(∀ j,j+1<(zBR (zF0 n i) (m+1)).length→(n.n.getD ((zBR (zF0 n i) (m+1)).getD (j+1) 0).toNat default).1=(zBR (zF0 n i) (m+1)).getD j 0) →
  ∀ j,j+1<(chL n i).length→(n.n.getD ((chL n i).getD (j+1) 0).toNat default).1=(chL n i).getD j 0
 | d, m, hd,hm,hc,hl,hs=>by
  rcases zWA ho hi hm hc with ⟨_,g2⟩ | ⟨k,g1,g2,g3,g4,g5⟩
  ·unfold chL;rw [g2];exact hs
  ·have vk:=zPc (n:=n) (x:=(m:Int)) (by rw [g1];omega)
   obtain ⟨k',f1,f2,f3⟩:=vk
   have vY:k'=k:=by rw [g1] at f1;omega
   subst vY
   refine zOn ho hi (n.n.length-k') k' rfl g3 g4 (by rw [g5];simp) ?_
   rw [g5]
   intro j hj
   rw [List.length_append,List.length_singleton] at hj
   by_cases hj2:j+1<(zBR (zF0 n i) (m+1)).length
   ·have a1:(zBR (zF0 n i) (m+1)++[(k':Int)]).getD (j+1) 0=(zBR (zF0 n i) (m+1)).getD (j+1) 0:=by
     rw [List.getD_eq_getElem?_getD,List.getD_eq_getElem?_getD,List.getElem?_append_left hj2]
    have a2:(zBR (zF0 n i) (m+1)++[(k':Int)]).getD j 0=(zBR (zF0 n i) (m+1)).getD j 0:=by
     rw [List.getD_eq_getElem?_getD,List.getD_eq_getElem?_getD,List.getElem?_append_left (by omega)]
    rw [a1,a2]
    exact hs j hj2
   ·have e1:j+1=(zBR (zF0 n i) (m+1)).length:=by omega
    rw [List.getLast?_eq_getElem?,show (zBR (zF0 n i) (m+1)).length-1=j by omega] at hl
    have a1:(zBR (zF0 n i) (m+1)++[(k':Int)]).getD (j+1) 0=k':=by
     rw [List.getD_eq_getElem?_getD,e1,List.getElem?_append_right (Nat.le_refl _),Nat.sub_self];rfl
    have a2:(zBR (zF0 n i) (m+1)++[(k':Int)]).getD j 0=m:=by
     rw [List.getD_eq_getElem?_getD,List.getElem?_append_left (by omega),hl];rfl
    rw [a1,a2,Int.toNat_natCast]
    exact f3
 termination_by d=>d
 decreasing_by omega
theorem zSg {n:Nw} (ho:NwOk n) {i:Nat} (hi:i<n.n.length):0<(chL n i).length∧(chL n i).getD 0 0=(zAh n).getD i 0∧(∀ j,j+1<(chL n i).length→(n.n.getD ((chL n i).getD (j+1) 0).toNat default).1=(chL n i).getD j 0) ∧
  (zAW n).getD ((zAh n).getD i 0).toNat 0=(chL n i).getD ((chL n i).length-1) 0:=by
 have hf:=zBz ho i hi
 have hff:=zJp ho i hi
 obtain ⟨m,hm⟩:∃ m:Nat,(zAh n).getD i 0=m:=⟨((zAh n).getD i 0).toNat,by omega⟩
 have LE:m<n.n.length:=by omega
 rw [hm,Int.toNat_natCast] at hff
 have hc:chn n m i:=by unfold chn;rw [hff,hm]
 have yJ:=zRE ho hi hm
 have hon:=zOn ho hi _ m rfl LE hc (by rw [yJ];rfl) (by rw [yJ];simp)
 have vN:(chL n i).Pairwise (· < ·):=zFm _
 have y1:∀ y,y∈chL n i↔∃ k:Nat,k<n.n.length∧chn n k i∧y=k:=by
  intro y
  unfold chL
  rw [zFK]
  simp only [zF0,decide_eq_true_eq,chn,Int.toNat_natCast]
 have wY:(m:Int)∈chL n i:=(y1 _).2 ⟨m,LE,hc,rfl⟩
 have qI:0<(chL n i).length:=List.length_pos_of_mem wY
 obtain ⟨l,vA,wL,gb,_,hl5⟩:=zHb ho LE
 have hlm:(l:Int)∈chL n i:=(y1 _).2 ⟨l,wL,by unfold chn at gb hc ⊢;rw [gb,hc],rfl⟩
 refine ⟨qI,?_,hon,?_⟩
 ·rw [hm,zAy qI]
  obtain ⟨k,q1,q2,q3⟩:=(y1 _).1 (List.getElem_mem qI)
  have hk:=zBz ho k q1
  have:(zAh n).getD k 0=m:=by unfold chn at q2;rw [q2,hm]
  obtain ⟨j,hj,hje⟩:=List.getElem_of_mem wY
  by_cases hj0:j=0
  ·subst hj0;exact hje
  ·have:=List.pairwise_iff_getElem.1 vN 0 j qI hj (by omega)
   omega
 ·rw [hm,Int.toNat_natCast,vA,zAy (by omega)]
  obtain ⟨k,q1,q2,q3⟩:=(y1 _).1 (List.getElem_mem (show (chL n i).length-1<(chL n i).length by omega))
  have vz:=hl5 k q1 (by unfold chn at q2 hc ⊢;rw [q2,hc])
  obtain ⟨j,hj,hje⟩:=List.getElem_of_mem hlm
  by_cases hj0:j=(chL n i).length-1
  ·subst hj0;exact hje.symm
  ·have:=List.pairwise_iff_getElem.1 vN j ((chL n i).length-1) hj (by omega) (by omega)
   omega
theorem zRW {n:Nw} {x:Int} {cs:List (Int×Int)} {i:Nat} (hi:i<cs.length):zHw n x (cs.take (i+1))=if has (chL n x) (cs.getD i default).1=true then zHw n x (cs.take i)++[cs.getD i default] else zHw n x (cs.take i):=by
 rw [zCo (d:=default) hi]
 unfold zHw
 rw [List.filter_append]
 by_cases hp:has (chL n x) (cs.getD i default).1=true
 ·rw [if_pos hp];simp only [List.filter_cons,hp,if_true,List.filter_nil]
 ·rw [if_neg hp];simp only [List.filter_cons,hp,List.filter_nil,List.append_nil];simp
end Go.Eng
set_option maxRecDepth 10000
set_option maxHeartbeats 4000000
namespace Go.Eng
open Go Go.Proofs
section
variable [Yo]
theorem f66 (ch:List Int) (hc:ch.length≤100) (x:Int):FG 66 [I x,.ref (zA9 ch)] (.bool (!has ch x)):=by
 refine zAe Tryz.f66 ?_
 refine zAd 1<|zAa<|zAd 2<|S_a [(8,.ret (PV.bool (has ch x)) [])] (ap (f58 ch x (by omega)) an)<|zAc 2<|zAa<|zAn<|E_a [] an (PV.bool !has ch x) [] rfl rfl
theorem f131_9 (ch:List Int) (hc:ch.length≤100) (l:List (Int)) (hl:l.length<4294967296):FG 131 [.sl (l.map I),.func 66 [] [.ref (zA9 ch)]] (I (zEf (fun x => !has ch x) l)):=by
 refine zAe Tryz.f131 ?_
 refine zAd 1<|zAa<|zAi<|zAd 1<|S_a [(0,.n l.length)] (ap (lnS I l) an)<|zAc 1<|zAa<|zAk 0 ?_
 refine zAA (fun i=>i≤l.length∧∀ j,j<i→(fun x => !has ch x) (l.getD j 0)=false) (fun i=>[(8,I (i:Nat))]) (fun i=>l.length-i) (0:Nat) (by simp) fun i ⟨hi,ha⟩=>?_
 refine zAd 1<|zAa<|zAi<|zDo ((↑i:Int)<(↑l.length:Int)) (fun k0=>(zAl<|zAi<|zAk 1<|zAd 2<|zAa<|zAd 3<|S_a [(2,.v (I (l.getD i 0)))] (ap (zCI (0) (by omega):(List.map I l)[i]? = some (I (l.getD i 0))) an)<|zAc 1<|S_a [(7,.ret (PV.bool !has ch (l.getD i 0)) [])] (ap (f66 ch (by omega) (l.getD i 0)) an)<|zAa<|zFe (!has ch (l.getD i 0)) (fun k1=>(zAd 2<|zAa<|zAn<|E_a [] an (I (↑i:Int)) [] ?_ rfl)) (fun k1=>(zAl<|zAg<|S_a [(1,.v (I (↑(i+1):Int)))] (ap (wrN i) an)<|zAc 1<|zAa ?_)))) (fun k0=>(zAS 0<|zAd 1<|zAa<|zAn<|E_a [] an (I (-1)) [] ?_ rfl))
 ·rw [zBS (i:=i) (by omega) (fun j hj=>by rw [← zAy (d:=0)];exact ha j hj) (by rw [← zAy (d:=0)];first | assumption | exact decide_eq_true ‹_› | (simp only [Bool.not_eq_true',decide_eq_false_iff_not];assumption))]
 ·refine ⟨i+1,⟨by omega,fun j hj=>?_⟩,by omega,by kernel_rfl,by kernel_rfl⟩
  rcases Nat.lt_succ_iff_lt_or_eq.1 hj with h | rfl
  ·exact ha j h
  ·first | assumption | exact decide_eq_false ‹_› | (simp only [Bool.not_eq_false',decide_eq_true_eq];first | assumption | (apply Decidable.of_not_not;assumption))
 ·rw [zCa fun j hj=>by rw [← zAy (d:=0)];exact ha j (by omega)]
theorem f64_9 (ch:List Int) (hc:ch.length≤100) (l:List (Int)) (hl:l.length<4294967296):FG 64 [.own 1 (l.map I),.func 66 [] [.ref (zA9 ch)]] (.own 1 ((l.filter fun x => !(!has ch x)).map I)):=by
 have h1:=zOZ (fun x => !has ch x) l
 have jC:=f131_9 ch hc l hl
 by_cases hm:zEf (fun x => !has ch x) l = -1
 ·rw [hm] at jC
  rw [h1.1 hm]
  refine zAe Tryz.f64 ?_
  refine zAd 1<|zAa<|zAd 2<|S_a [(3,.ob),(0,.v (zA9 l)),(3,.ret (I (-1)) [])] (ap (blz (List.map I l))<|ap (frT I l)<|ap jC an)<|zAc 1<|zAa<|zAi<|zAd 2<|zAa<|zDR<|zAd 1<|S_a [(2,.yes)] (ap ((by exact zBB (by simp<;>omega)):(Nat.beq 0 0&&(List.map I l).length.beq (List.map I l).length)=true) an)<|zAa<|zAn<|E_a [(1,.yes),(1,.v (PV.own 1 (List.map I l)))] (ap (blz (List.map I l))<|ap ((zAY zBi):PV.own 1 (List.take (List.map I l).length (List.drop 0 (List.map I l)))=PV.own 1 (List.map I l)) an) (PV.own 1 (List.map I l)) [] rfl rfl
 ·obtain ⟨i0,j8,hil0,gS⟩:=h1.2 hm
  rw [j8] at jC
  clear h1 hm
  refine zAe Tryz.f64 ?_
  refine zAd 1<|zAa<|zAd 2<|S_a [(3,.ob),(0,.v (zA9 l)),(3,.ret (I (↑i0:Int)) [])] (ap (blz (List.map I l))<|ap (frT I l)<|ap jC an)<|zAc 1<|zAa<|zAi<|zAd 2<|zAa<|zAG<|zAl<|zAi<|zAd 1<|S_a [(1,.v (I (↑(i0+1):Int)))] (ap (wrN i0) an)<|zAc 1<|zAa<|zAk 0 ?_
  refine zAA (fun (i,j,S)=>j≤l.length∧i<j∧S.length=l.length∧S.take i=(l.take j).filter (fun x => !(!has ch x))∧∀ r,j≤r→S.getD r 0=l.getD r 0) (fun (i,j,S)=>[(0,.own 1 (S.map I)),(5,I (i:Nat)),(6,I (j:Nat))]) (fun (_,j,_)=>l.length-j) (i0,i0+1,l) ⟨by omega,by omega,rfl,gS,fun _ _=>rfl⟩ fun (i,j,S) ⟨hj,gi,hS,ht,hd⟩=>?_
  by_cases jL:j<l.length
  ·have hri:=True.intro
   have hx:=hd j (Nat.le_refl j)
   have yJ:=zJH (fun x => !(!has ch x)) l j 0 jL
   rw [← hx] at yJ
   clear jC
   have w6:=hd
   clear hd hx
   refine zAi<|zAd 2<|S_a [(0,.n S.length)] (ap (lnS I S) an)<|zAc 1<|zAa<|zA8 ((↑j:Int)<(↑S.length:Int)) (by omega)<|zAl<|zAi<|zAk 1<|zAd 2<|S_a [(2,.ob),(1,.n j)] (ap ((by exact zAs (by simp only [List.length_map,zzLn]<;>omega)):decide (j<(List.map I S).length)=true)<|ap ((by simp):some (0+j)=some j) an)<|S_a [(0,.cs false ([I (S.getD j 0)]))] (ap (zC8 (q:=PV.own 1 (List.map I S)) (xs:=List.map I S) (x:=I (S.getD j 0)) rfl (zCI (0) (by omega)):zAr 0 (PV.own 1 (List.map I S)) [] j 0 1=some (false,[I (S.getD j 0)])) an)<|zAc 1<|zAa<|zAd 2<|S_a [(7,.ret (PV.bool !has ch (S.getD j 0)) [])] (ap (f66 ch (by omega) (S.getD j 0)) an)<|zAc 1<|zAa<|zFe (!!has ch (S.getD j 0)) (fun k0=>(zAd 3<|S_a [(2,.ob),(1,.n i)] (ap ((by exact zAs (by simp only [List.length_map,zzLn]<;>omega)):decide (i<(List.map I S).length)=true)<|ap ((by simp):some (0+i)=some i) an)<|S_a [(8,.root (PV.own 1 (List.map I (S.set i (S.getD j 0)))) true)] (ap (zVh (zCI (0) (by omega)) zLr:zBP (PV.own 1 (List.map I S)) [] i 0 (I (S.getD j 0)).cells=some (PV.own 1 (List.map I (S.set i (S.getD j 0))))∧zAN (PV.own 1 (List.map I S)) (PV.own 1 (List.map I (S.set i (S.getD j 0)))) []=true) an)<|zAa<|zAg<|zAc 1<|S_a [(1,.v (I (↑(i+1):Int)))] (ap (wrN i) an)<|zAc 1<|zAa<|zAg<|zAc 1<|S_a [(1,.v (I (↑(j+1):Int)))] (ap (wrN j) an)<|zAc 1<|zAa ?_)) (fun k0=>(zAl<|zAg<|zAc 1<|S_a [(1,.v (I (↑(j+1):Int)))] (ap (wrN j) an)<|zAc 1<|zAa ?_))
   ·have hb:((fun x => !(!has ch x)) (S.getD j 0))=true:=by first | assumption | (simp only [Bool.not_eq_true',decide_eq_false_iff_not];assumption)
    rw [if_pos hb] at yJ
    refine ⟨(i+1,j+1,S.set i (S.getD j 0)),⟨by omega,by omega,by simpa using hS,?_,fun r vc=>?_⟩,by simp only;omega,by kernel_rfl,by kernel_rfl⟩
    ·rw [yJ,← ht,zHn (by omega)]
    ·rw [zJ0 (by omega)];exact w6 r (by omega)
   ·have hb:((fun x => !(!has ch x)) (S.getD j 0))=false:=by first | assumption | (simp only [Bool.not_eq_false',decide_eq_true_eq];assumption)
    rw [if_neg (fun h=>Bool.noConfusion (hb.symm.trans h))] at yJ
    exact ⟨(i,j+1,S),⟨by omega,by omega,hS,by rw [yJ,ht],fun r vc=>w6 r (by omega)⟩,by simp only;omega,by kernel_rfl,by kernel_rfl⟩
  ·refine zAi<|zAd 2<|S_a [(0,.n S.length)] (ap (lnS I S) an)<|zAc 1<|zAa<|zBk ((↑j:Int)<(↑S.length:Int)) (by omega)<|zAS 0<|zAd 2<|S_a [(3,.ob),(0,.yes),(0,.yes),(0,.v (PV.bor 0 [] 1 i (S.length-i)))] (ap ((by exact zA0 (by simp only [List.length_map,zzLn,zAU]<;>omega)):i.ble (List.map I S).length=true)<|ap ((by exact zA0 (by simp only [List.length_map,zzLn,zAU]<;>omega)):(List.map I S).length.ble (List.map I S).length=true)<|ap ((by simp<;>omega):(i.beq 0||i.blt (List.map I S).length)=true)<|ap ((by simp):PV.bor 0 [] 1 (0+i) ((List.map I S).length-i)=PV.bor 0 [] 1 i (S.length-i)) an)<|zNO (g:=I) (fun q=>q) 0 1 i (S.length-i) S (0) (by first | omega | (simp<;>omega)) ⟨rfl,rfl⟩ (fun _=>(by first | exact zLA | exact ⟨rfl,rfl,rfl,rfl,Nat.le_refl _,rfl⟩)) zSC.nil (zAa<|zAd 2<|S_a [(4,.yes)] (ap ((by exact zA0 (by simp<;>omega)):i.ble (List.map I (List.take i S++List.replicate (S.length-i) 0++List.drop (i+(S.length-i)) S)).length=true) an)<|zAc 1<|zAa<|zAn<|E_a [(1,.yes),(1,.v (PV.own 1 (List.map I (List.take i (List.take i S++List.replicate (S.length-i) 0++List.drop (i+(S.length-i)) S)))))] (ap ((by exact zA0 (by simp<;>omega)):(0+((↑i:Int).toNat-0)).ble (List.map I (List.take i S++List.replicate (S.length-i) 0++List.drop (i+(S.length-i)) S)).length=true)<|ap ((by simp):PV.own 1 (List.take i (List.drop 0 (List.map I (List.take i S++List.replicate (S.length-i) 0++List.drop (i+(S.length-i)) S))))=PV.own 1 (List.map I (List.take i (List.take i S++List.replicate (S.length-i) 0++List.drop (i+(S.length-i)) S)))) an) (PV.own 1 (List.map I (List.take i (List.take i S++List.replicate (S.length-i) 0++List.drop (i+(S.length-i)) S)))) [] ?_ rfl)
   rw [List.take_of_length_le (Nat.le_of_not_lt jL)] at ht
   rw [← ht,List.append_assoc,List.take_append_of_le_length (by rw [List.length_take];omega),List.take_take,Nat.min_self]
end
theorem f10 (nums crs:List Int) (whi whe:Int) (vA:nums.length<9223372036854775808) (wL:crs.length<9223372036854775808) (hw1:0≤whi∧whi≤255) (hw3:0≤whe∧whe≤255):FG 10 [.sl (nums.map u8),.sl (crs.map u8),.int .u8 whi,.int .u8 whe] (.bool true):=by
 obtain ⟨v1,h1,kz,n,a1,t1,rfl,rfl,gp,hH,hN,hS,y5⟩:=f48_ex nums 0 0 6 6 4 ⟨Nat.zero_le _,vA⟩ (by omega) (by omega) (by omega)
 have ho:=zVv gp
 have uL:=ho.nl
 have hs6:=ho.sl
 have hHH:=ho.h
 obtain ⟨v2,h2,gq,cs,a2,t2,rfl,rfl,yO,hcr,jX⟩:=f50_ex n crs 0 0 8 ho ⟨Nat.zero_le _,wL⟩ (by omega)
 have m1:=Int.tmod_nonneg (n.n.length:Int) hw1.1
 have m2:=Int.tmod_lt_of_pos whi (show (0:Int)<n.n.length by omega)
 have m5:=Int.tmod_nonneg (6:Int) hw3.1
 have m6:=Int.tmod_lt_of_pos whe (show (0:Int)<6 by omega)
 have vi:=zW0 gp (by omega) hcr
 have vQ:=vi.w
 have qp:(((whi.tmod n.n.length).toNat:Nat):Int)=whi.tmod n.n.length:=Int.toNat_of_nonneg m1
 have c1:FG 63 [nwV n,I (whi.tmod n.n.length)] (.tup [.own 1 ((chL n (whi.tmod n.n.length)).map I),I 0]):=f63_1 n (whi.tmod n.n.length) ho ⟨m1,m2⟩
 obtain ⟨g0,g1,g2,g3⟩:=zSg ho (i:=(whi.tmod n.n.length).toNat) (by omega)
 rw [qp] at g0 g1 g2 g3
 have qn:=zBz ho (whi.tmod n.n.length).toNat (by omega)
 have c2:FG 54 [nwV n,I (whi.tmod n.n.length)] (I ((chL n (whi.tmod n.n.length)).getD 0 0)):=by
  rw [g1];exact f54 n _ ho ⟨m1,m2⟩
 have c6:FG 67 [nwV n,I ((chL n (whi.tmod n.n.length)).getD 0 0)] (I ((chL n (whi.tmod n.n.length)).getD ((chL n (whi.tmod n.n.length)).length-1) 0)):=by
  have:=f67 n ho n.n.length ((zAh n).getD (whi.tmod n.n.length).toNat 0).toNat (by omega) (by omega)
  rw [Int.toNat_of_nonneg qn.1,g3,← g1] at this
  exact this
 have g4:∀ y∈chL n (whi.tmod n.n.length),0≤y∧y<n.n.length:=fun y hy=>by
  obtain ⟨i,q1,_,rfl⟩:=zFK.1 hy;omega
 have g5:(chL n (whi.tmod n.n.length)).length≤8:=Nat.le_trans zG2 (by omega)
 have how:=zXf (x:=whi.tmod n.n.length) vQ
 have hol:(zHw n (whi.tmod n.n.length) cs).length≤8:=Nat.le_trans (List.length_filter_le _ _) (by omega)
 have hoo:=zW0 (cs:=zHw n (whi.tmod n.n.length) cs) gp (by omega) fun c hc=>how.cs c hc
 have c3:∀ h:Nat,(h:Int)<n.h→FG 51 [nwV n,prs cs,I (whe.tmod 6),I h] (.tup [.own 1 ((hoL n cs (whe.tmod 6).toNat h).map I),I 0]):=fun h hh=>f51_1 n cs (whe.tmod 6) h (zWu vi ⟨m5,by omega⟩) hh
 have c4:∀ h:Nat,(h:Int)<n.h→FG 51 [nwV n,prs (zHw n (whi.tmod n.n.length) cs),I (whe.tmod 6),I h] (.tup [.own 1 ((hoL n (zHw n (whi.tmod n.n.length) cs) (whe.tmod 6).toNat h).map I),I 0]):=fun h hh=>f51_1 n _ (whe.tmod 6) h (zWu hoo ⟨m5,by omega⟩) hh
 have q1:∀ h:Nat,h<n.h.toNat→((hoL n cs (whe.tmod 6).toNat h).filter fun y => !(!has (chL n (whi.tmod n.n.length)) y))=hoL n (zHw n (whi.tmod n.n.length) cs) (whe.tmod 6).toNat h∧(hoL n (zHw n (whi.tmod n.n.length) cs) (whe.tmod 6).toNat h).length≤1∧(hoL n cs (whe.tmod 6).toNat h).length≤8:=fun h hh=>by
  have:=zW7 (x:=whi.tmod n.n.length) vQ (whe.tmod 6).toNat hh
  simp only [Bool.not_not]
  exact ⟨this.1,this.2,Nat.le_trans zUO (by omega)⟩
 have q2:∀ i:Nat,i<cs.length→zHw n (whi.tmod n.n.length) (cs.take (i+1))=if has (chL n (whi.tmod n.n.length)) (cs.getD i default).1=true then zHw n (whi.tmod n.n.length) (cs.take i)++[cs.getD i default] else zHw n (whi.tmod n.n.length) (cs.take i):=fun i hi=>zRW hi
 have q3:∀ i:Nat,(zHw n (whi.tmod n.n.length) (cs.take i)).length≤i:=fun i=>Nat.le_trans (List.length_filter_le _ _) (by simp;omega)
 have uF:=f17
 clear hcr vi hoo how g1 g3 qp
 generalize chL n (whi.tmod n.n.length)=ch at *
 refine zAe Tryz.f10 ?_
 refine zAd 1<|zAa<|zAd 1<|S_a [(6,.ret (zB2 nums 0 0) [])] (ap (f49 nums) an)<|S_a [(10,.ret (nwO n) ([zB2 nums a1 t1]))] (ap kz an)<|zAc 1<|S_a [(3,.v (PV.agg [I n.h,prs n.l,PV.sl (List.map ntV n.n),PV.sl (List.map zA9 n.s)]))] (ap ((by simp only [show zAz (List.map prV n.l)=List.map prV n.l from (by first | exact zA6 _ | exact zBC _ | exact zBp _ | exact zBG (zBC _) | exact zBG (zBp _) | exact zED (by simp [zDe]) (zA6 _)),show zAz (List.map ntV n.n)=List.map ntV n.n from (by first | exact zA6 _ | exact zBC _ | exact zBp _ | exact zBG (zBC _) | exact zBG (zBp _) | exact zED (by simp [zDe]) (zA6 _)),show zAz (List.map zKl n.s)=List.map zA9 n.s from (by first | exact zA6 _ | exact zBC _ | exact zBp _ | exact zBG (zBC _) | exact zBG (zBp _) | exact zED (by simp [zDe]) (zA6 _))]):PV.agg [I n.h,PV.sl (zAz (List.map prV n.l)),PV.sl (zAz (List.map ntV n.n)),PV.sl (zAz (List.map zKl n.s))]=PV.agg [I n.h,prs n.l,PV.sl (List.map ntV n.n),PV.sl (List.map zA9 n.s)]) an)<|zAa<|zAd 1<|S_a [(6,.ret (zB2 crs 0 0) [])] (ap (f49 crs) an)<|zAc 1<|S_a [(8,.ret (PV.own 2 (List.map prV cs)) ([zB2 crs a2 t2]))] (ap gq an)<|zAc 1<|zAa<|zAd 1<|S_a [(0,.v (I whe))] (ap ((zCe rfl (by omega)):I (IntKind.i64.wrap whe)=I whe) an)<|zAc 2<|zAa<|zAd 2<|S_a [(0,.v (I whi))] (ap ((zCe rfl (by omega)):I (IntKind.i64.wrap whi)=I whi) an)<|zAc 2<|S_a [(0,.n n.n.length)] (ap (lnS ntV n.n) an)<|S_a [(0,.v (I (whi.tmod (↑n.n.length:Int))))] (ap (zSw (by omega) rfl:zHp Tryz.prog BinOp.rem 3 (I whi) (I (↑n.n.length:Int))=some (I (whi.tmod (↑n.n.length:Int)))) an)<|S_a [(8,.ret (PV.tup [PV.own 1 (List.map I ch),I 0]) [])] (ap c1 an)<|zAc 4<|S_a [(3,.v (zA9 ch))] (ap ((zQ9 (zA6 _)):PV.sl (zAz (List.map I ch))=zA9 ch) an)<|zAc 1<|zAa<|zAi<|zAd 4<|S_a [(0,.n ch.length)] (ap (lnS I ch) an)<|zAc 3<|zJf 52 ((↑ch.length:Int)<1) (by omega) (zAc 1<|S_a [(2,.v (I (ch.getD 0 0)))] (ap (zCI (0) (by omega):(List.map I ch)[0]? = some (I (ch.getD 0 0))) an)<|zAc 3<|S_a [(0,.v (I whi))] (ap ((zCe rfl (by omega)):I (IntKind.i64.wrap whi)=I whi) an)<|zAc 2<|S_a [(0,.n n.n.length)] (ap (lnS ntV n.n) an)<|S_a [(0,.v (I (whi.tmod (↑n.n.length:Int))))] (ap (zSw (by omega) rfl:zHp Tryz.prog BinOp.rem 3 (I whi) (I (↑n.n.length:Int))=some (I (whi.tmod (↑n.n.length:Int)))) an)<|S_a [(8,.ret (I (ch.getD 0 0)) [])] (ap c2 an)<|zAc 2<|zAa<|zGE (ch.getD 0 0=ch.getD 0 0) (by omega)<|zAl<|zAi<|zAd 1<|S_a [(0,.n ch.length)] (ap (lnS I ch) an)<|zAc 1<|zAa<|zAk 0 ?_)
 refine zAA (fun i=>i≤ch.length) (fun (i:Nat)=>[(68,I (i:Nat))]) (fun i=>ch.length-i) (0:Nat) (Nat.zero_le _) fun i hi=>?_
 by_cases yV:i<ch.length
 ·have hx:=zDk (d:=0) g4 i yV
  have hp:0<i→(n.n.getD (ch.getD i 0).toNat default).1=ch.getD (i-1) 0:=fun h=>by
   have:=g2 (i-1) (by omega)
   rwa [show i-1+1=i by omega] at this
  clear g2 g4 c3 c4 q1 q2 q3
  by_cases h0:0<i
  ·have wO:=hp h0
   clear hp
   refine zAd 1<|zAa<|zAi<|zA8 ((↑i:Int)<(↑ch.length:Int)) (by omega)<|zAl<|zAi<|zAk 1<|zAd 1<|S_a [(2,.v (I (ch.getD i 0)))] (ap (zCI (0) (by omega):(List.map I ch)[i]? = some (I (ch.getD i 0))) an)<|zAc 3<|zAa<|zAd 3<|zJf 75 (ch.getD i 0<0) (by omega) (zAc 3<|S_a [(0,.n n.n.length)] (ap (lnS ntV n.n) an)<|zAc 3<|zJf 82 (ch.getD i 0≥(↑n.n.length:Int)) (by omega) (zAc 3<|zRp 85 ((↑i:Int)>0) (by omega) (zAc 3<|S_a [(0,.ob),(1,.v (PV.agg [I (n.n.getD (ch.getD i 0).toNat default).fst,PV.bool (n.n.getD (ch.getD i 0).toNat default).snd]))] (ap ((by exact zAs (by omega)):decide (0≤ch.getD i 0)=true)<|ap (zCI default (by omega):(List.map ntV n.n)[(ch.getD i 0).toNat]? = some (PV.agg [I (n.n.getD (ch.getD i 0).toNat default).fst,PV.bool (n.n.getD (ch.getD i 0).toNat default).snd])) an)<|zAc 4<|S_a [(1,.v (I (↑(i-1):Int)))] (ap ((zCe (by omega) (by omega)):I (IntKind.i64.wrap ((↑i:Int)-1))=I (↑(i-1):Int)) an)<|S_a [(2,.v (I (ch.getD (i-1) 0)))] (ap (zCI (0) (by omega):(List.map I ch)[i-1]? = some (I (ch.getD (i-1) 0))) an)<|zAc 4<|zAa<|zGE ((n.n.getD (ch.getD i 0).toNat default).fst=ch.getD (i-1) 0) (by omega)<|zAl<|zAg<|S_a [(1,.v (I (↑(i+1):Int)))] (ap (wrN i) an)<|zAc 1<|zAa ?_)))
   exact ⟨i+1,by omega,by omega,by kernel_rfl,by kernel_rfl⟩
  ·clear hp
   refine zAd 1<|zAa<|zAi<|zA8 ((↑i:Int)<(↑ch.length:Int)) (by omega)<|zAl<|zAi<|zAk 1<|zAd 1<|S_a [(2,.v (I (ch.getD i 0)))] (ap (zCI (0) (by omega):(List.map I ch)[i]? = some (I (ch.getD i 0))) an)<|zAc 3<|zAa<|zAd 3<|zJf 75 (ch.getD i 0<0) (by omega) (zAc 3<|S_a [(0,.n n.n.length)] (ap (lnS ntV n.n) an)<|zAc 3<|zJf 82 (ch.getD i 0≥(↑n.n.length:Int)) (by omega) (zAc 3<|zJf 85 ((↑i:Int)>0) (by omega) (zAc 14<|zAa<|zAG<|zAl<|zAg<|S_a [(1,.v (I (↑(i+1):Int)))] (ap (wrN i) an)<|zAc 1<|zAa ?_)))
   exact ⟨i+1,by omega,by omega,by kernel_rfl,by kernel_rfl⟩
 clear g2 g4
 refine zAd 1<|zAa<|zAi<|zBk ((↑i:Int)<(↑ch.length:Int)) (by omega)<|zAS 0<|zAd 1<|zAa<|zAi<|zAd 1<|S_a [(0,.n cs.length)] (ap (lnS prV cs) an)<|zAc 1<|zAa<|zAk 2 ?_
 refine zAA (fun (i,l)=>i≤cs.length∧l=zHw n (whi.tmod n.n.length) (cs.take i)) (fun ((i:Nat),(l:List (Int×Int)))=>[(16,.own 2 (l.map prV)),(103,I (i:Nat))]) (fun (i,_)=>cs.length-i) ((0:Nat),([]:List (Int×Int))) ⟨Nat.zero_le _,rfl⟩ fun (i,l) ⟨hi,hl⟩=>?_
 have wc:l.length≤i:=by rw [hl];exact q3 i
 by_cases yV:i<cs.length
 ·have yW:=q2 i yV
  rw [← hl] at yW
  clear hl q1 q2 q3 c3 c4
  refine zAd 1<|zAa<|zAi<|zA8 ((↑i:Int)<(↑cs.length:Int)) (by omega)<|zAl<|zAi<|zAk 3<|zAi<|zAg<|S_a [(2,.ob),(1,.n i)] (ap ((by exact zAs (by simp only [List.length_map,zzLn]<;>omega)):decide (i<(List.map prV cs).length)=true)<|ap ((by simp):some (0+i)=some i) an)<|S_a [(0,.cs true ([I (cs.getD i default).fst,I (cs.getD i default).snd]))] (ap (zC8 (q:=PV.own 2 (List.map prV cs)) (xs:=List.map prV cs) (x:=PV.agg [I (cs.getD i default).fst,I (cs.getD i default).snd]) rfl (zCI default (by omega)):zAr 10 (PV.own 2 (List.map prV cs)) [] i 0 Tryz.prog.types[37].size=some (true,[I (cs.getD i default).fst,I (cs.getD i default).snd])) an)<|zAc 2<|zAa<|zAd 3<|S_a [(8,.ret (PV.bool (has ch (cs.getD i default).fst)) [])] (ap (f58 ch ((cs.getD i default).fst) (by omega)) an)<|zAa<|zFe (has ch (cs.getD i default).fst) (fun k0=>(zAg<|zAc 3<|S_a [(4,.ob),(0,.ob),(0,.yes),(2,.v (PV.own 2 (List.map prV (l++[cs.getD i default]))))] (ap (blz (List.map prV l))<|ap ((by exact zA0 (by simp only [List.length_map,zzLn,zAU]<;>omega)):((List.map prV l).length + [PV.agg [I (cs.getD i default).fst,I (cs.getD i default).snd]].length).ble zAU=true)<|ap ((by exact zBB (by simp<;>omega)):(0+(List.map prV l).length).beq (List.map prV l).length=true)<|ap ((zAY (zBE (by kernel_rfl))):PV.own 2 (List.map prV l++[PV.agg [I (cs.getD i default).fst,I (cs.getD i default).snd]])=PV.own 2 (List.map prV (l++[cs.getD i default]))) an)<|zAc 1<|zAa<|zAg<|S_a [(1,.v (I (↑(i+1):Int)))] (ap (wrN i) an)<|zAc 1<|zAa ?_)) (fun k0=>(zAl<|zAg<|S_a [(1,.v (I (↑(i+1):Int)))] (ap (wrN i) an)<|zAc 1<|zAa ?_))
  ·rw [if_pos k0] at yW
   exact ⟨(i+1,l++[cs.getD i default]),⟨by omega,yW.symm⟩,by simp only;omega,by kernel_rfl,by kernel_rfl⟩
  ·rw [if_neg (by rw [k0];simp)] at yW
   exact ⟨(i+1,l),⟨by omega,yW.symm⟩,by simp only;omega,by kernel_rfl,by kernel_rfl⟩
 rw [List.take_of_length_le (by omega)] at hl
 rw [← hl] at c4 hol
 have q1':∀ h:Nat,h<n.h.toNat→((hoL n cs (whe.tmod 6).toNat h).filter fun y => !(!has ch y))=hoL n l (whe.tmod 6).toNat h∧(hoL n l (whe.tmod 6).toNat h).length≤1∧(hoL n cs (whe.tmod 6).toNat h).length≤8:=by rw [hl];exact q1
 clear hl q1 q2 q3
 refine zAd 1<|zAa<|zAi<|zBk ((↑i:Int)<(↑cs.length:Int)) (by omega)<|zAS 2<|zAi<|zAd 3<|zAa<|zAk 4 ?_
 refine zAA (fun h=>h≤n.h.toNat) (fun (h:Nat)=>[(118,I (h:Nat))]) (fun h=>n.h.toNat-h) (0:Nat) (Nat.zero_le _) fun h hh=>?_
 by_cases qm:(h:Int)<n.h
 ·have d3:=c3 h qm
  have d4:=c4 h qm
  have hq:=q1' h (by omega)
  clear c3 c4 q1'
  generalize hoL n cs (whe.tmod 6).toNat h=A at *
  generalize hoL n l (whe.tmod 6).toNat h=B at *
  have dd:=f64_9 ch (by omega) A (by omega)
  rw [hq.1] at dd
  have kF:=hq.2
  clear hq
  refine zAd 1<|zAa<|zAi<|zA8 ((↑h:Int)<n.h) (by omega)<|zAl<|zAi<|zAk 5<|zAd 2<|zAa<|zAd 4<|S_a [(5,.ob),(0,.v (prs cs)),(6,.ret (PV.tup [PV.own 1 (List.map I A),I 0]) []),(1,.yes)] (ap (blz (List.map prV cs))<|ap (frT prV cs)<|ap d3<|ap ((by exact zUo (zFi _) rfl):(PV.tup [PV.own 1 (List.map I A),I 0]).free=true) an)<|zAc 5<|zAa<|zAd 4<|S_a [(5,.ob),(0,.v (prs l)),(6,.ret (PV.tup [PV.own 1 (List.map I B),I 0]) []),(1,.yes)] (ap (blz (List.map prV l))<|ap (frT prV l)<|ap d4<|ap ((by exact zUo (zFi _) rfl):(PV.tup [PV.own 1 (List.map I B),I 0]).free=true) an)<|zAc 5<|zAa<|zAi<|zAd 8<|S_a [(0,.n B.length)] (ap (lnS I B) an)<|zAc 2<|zAa<|zBk ((↑B.length:Int)>1) (by omega)<|zAl<|zAd 1<|S_a [(3,.ob),(0,.v (zA9 A)),(2,.ret (PV.own 1 (List.map I A)) []),(1,.yes)] (ap (blz (List.map I A))<|ap (frT I A)<|ap (f65 A (by omega))<|ap ((by exact zFi _):(PV.own 1 (List.map I A)).free=true) an)<|zAc 1<|S_a [(3,.ob),(1,.v (PV.own 1 (List.map I A))),(9,.ret (PV.own 1 (List.map I B)) []),(1,.yes)] (ap ((by exact zA0 (by simp only [List.length_map,zzLn,zAU]<;>omega)):(List.map I A).length.ble (List.map I A).length=true)<|ap ((zAY zBi):PV.own 1 (List.take (List.map I A).length (List.drop 0 (List.map I A)))=PV.own 1 (List.map I A))<|ap dd<|ap ((by exact zFi _):(PV.own 1 (List.map I B)).free=true) an)<|zAc 1<|zAa<|zAd 2<|S_a [(3,.ob),(0,.v (zA9 B)),(1,.ob),(0,.v (zA9 B)),(2,.ret (PV.bool (decide (B=B))) [])] (ap (blz (List.map I B))<|ap (frT I B)<|ap (blz (List.map I B))<|ap (frT I B)<|ap (f28 B B (by omega)) an)<|zAc 1<|zAa<|zGE (B=B) (by (simp;done))<|zAl<|zAg<|S_a [(1,.v (I (↑(h+1):Int)))] (ap (wrN h) an)<|zAc 1<|zAa ?_
  exact ⟨h+1,by omega,by omega,by kernel_rfl,by kernel_rfl⟩
 clear c3 c4 q1'
 refine zAd 1<|zAa<|zAi<|zBk ((↑h:Int)<n.h) (by omega)<|zAS 4<|zAd 2<|S_a [(2,.v (I (ch.getD 0 0)))] (ap (zCI (0) (by omega):(List.map I ch)[0]? = some (I (ch.getD 0 0))) an)<|zAc 1<|S_a [(8,.ret (I (ch.getD (ch.length-1) 0)) [])] (ap c6 an)<|zAc 2<|S_a [(0,.n ch.length)] (ap (lnS I ch) an)<|S_a [(1,.v (I (↑(ch.length-1):Int)))] (ap ((zCe (by omega) (by omega)):I (IntKind.i64.wrap ((↑ch.length:Int)-1))=I (↑(ch.length-1):Int)) an)<|S_a [(2,.v (I (ch.getD (ch.length-1) 0)))] (ap (zCI (0) (by omega):(List.map I ch)[ch.length-1]? = some (I (ch.getD (ch.length-1) 0))) an)<|zAc 3<|zRp 169 (ch.getD (ch.length-1) 0=ch.getD (ch.length-1) 0) (by omega) (S_a [(4,.ret (PV.bool true) [])] (ap uF an)<|zAc 2<|zAa<|zAn<|E_a [] an (PV.bool true) [] rfl rfl)
end Go.Eng
set_option maxRecDepth 100000
namespace Go.Proofs.YtppbomajegnkeaaGreat
open Go.ChangeShapes Go.WideShapes Go.ChangeAt Go.RowKit Go.Eng
theorem newsAlone_gives (ss:List (Bool×List Sh)) (wZ:zEW Tryz.prog Tryz.f10.params.toList=some ss) (qs:List PV) (hq:zLi ss qs):@zBD (yo1 Tryz.prog zCM) Tryz.prog zCM 10 qs [] (.bool true) []:=by
 have he:zEW Tryz.prog Tryz.f10.params.toList=some [(false,[.list false [.num .u8]]),(false,[.list false [.num .u8]]),(false,[.num .u8]),(false,[.num .u8])]:=by kernel_rfl
 rw [he] at wZ
 cases wZ
 obtain ⟨p0,qs0,rfl,h0,hq0⟩:=hq
 obtain ⟨p1,qs1,rfl,h1,kV⟩:=hq0
 obtain ⟨p2,qs2,rfl,h2,kF⟩:=kV
 obtain ⟨p3,qs3,rfl,h3,hq3⟩:=kF
 simp only [zLi] at hq3
 subst hq3
 obtain ⟨x0,rfl,l0,b0⟩:=zQR h0
 unfold maxLen at l0
 simp only [IntKind.min,IntKind.max,IntKind.signed,IntKind.bits] at b0
 simp at b0
 obtain ⟨x1,rfl,l1,b1⟩:=zQR h1
 unfold maxLen at l1
 simp only [IntKind.min,IntKind.max,IntKind.signed,IntKind.bits] at b1
 simp at b1
 obtain ⟨x2,rfl,b2⟩:=zUg h2
 simp only [IntKind.min,IntKind.max,IntKind.signed,IntKind.bits] at b2
 simp at b2
 obtain ⟨x3,rfl,b3⟩:=zUg h3
 simp only [IntKind.min,IntKind.max,IntKind.signed,IntKind.bits] at b3
 simp at b3
 exact f10 x0 x1 x2 x3 (by omega) (by omega) (by omega) (by omega)
theorem newsAlone_lifted (os:Os) (started:os.Started) (H:Type) (enc:TypeId×Value→H) :
  ReturnsInHanded {} Tryz.checked os 10 .any (Rows.newsAloneSpec.pre6 enc Tryz.prog Tryz.f10 Rows.newsAloneRow.domain false) (Rows.newsAloneSpec.post enc Tryz.prog Tryz.f10 false true false false):=by
 refine returnsInHanded_of_change (C:=Tryz.checked) Tryz.own started (by kernel_rfl) Tryz.func10
  (ChangeSpec.witness6 (enc:=enc) (C:=Tryz.checked) false ⟨#[],#[.slice none 0 0,.slice none 0 0,.int .u8 0,.int .u8 0],[]⟩ 8 (by kernel_rfl) (by kernel_rfl) (by kernel_rfl) (by kernel_rfl)) ?_
 intro W base args ds gs before hval0 hW hcnd _
 obtain ⟨p,q,hA0,hV,_,_,_⟩:=id hW
 obtain ⟨rfl,rfl⟩:=trodVars_none hV
 obtain ⟨ss,wZ⟩:∃ ss,zEW Tryz.prog Tryz.f10.params.toList=some ss:=Option.isSome_iff_exists.1 (by kernel_rfl)
 have hZ:ss.length≤1000:=by
  have h:((zEW Tryz.prog Tryz.f10.params.toList).map fun s=>Nat.ble s.length 1000)=some true:=by kernel_rfl
  rw [wZ] at h
  simpa using h
 exact zUP zE1 hnm zMd hin Tryz.laidOut rfl Tryz.underlying4 (by kernel_rfl) (by kernel_rfl) (fun ds hd=>by match ds,hd with | [d0,d1,d2,d3],_=>rfl) wZ hZ (newsAlone_gives ss wZ) hval0 hW
theorem newsAlone_holds:Rows.NewsAloneSaid :=
 OpenClaim.holds_of_wide 10 Tryz.f10 rfl rfl rfl rfl rfl rfl rfl ⟨rfl,rfl,rfl,rfl,rfl⟩ rfl rfl rfl rfl rfl (by kernel_rfl) Tryz.func10 (by kernel_rfl)
  (of_decide_eq_true (by kernel_rfl)) (by unfold Func.isWrapper;first | (rw [if_pos (by decide +kernel)];kernel_rfl) | (rw [if_neg (by decide +kernel)];exact ⟨rfl,rfl⟩))
  (fun os started H enc _=>newsAlone_lifted os started H enc)
end Go.Proofs.YtppbomajegnkeaaGreat
