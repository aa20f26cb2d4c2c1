/- The payments that are told clear balances; they are as many as there are people with a balance less the groups; without one of them the others do not clear (up to 7 balances of numbers; any payment). -/
import Derived.Test.YtpmbobnmpehobaaPf
import Derived.Test.YtpmbobnmpehobaaPe
import Derived.Test.YtpmbobnmpehobaaPd
set_option linter.unusedVariables false
set_option linter.unusedSimpArgs false
set_option linter.unusedSectionVars false
set_option maxRecDepth 10000
set_option maxHeartbeats 4000000
namespace Go.Eng
open Go Go.Proofs
def zBG (l:List Int):Int:=if (l.length:Int)>8 then 2 else if !l.all (fun x=>decide (-100000≤x)&&decide (x≤100000)) then 3 else if l.sum=0 then 0 else 8
structure BalOk (l:List Int):Prop where
 len:l.length≤8
 rng:∀ x∈l,-100000≤x∧x≤100000
 sum:l.sum=0
theorem zN4 {l:List Int} (h:zBG l=0):BalOk l:=by
 simp only [zBG] at h
 split at h
 ·cases h
 ·split at h
  ·cases h
  ·rename_i h2
   split at h
   ·rename_i h3
    exact ⟨by omega,zMc (by simpa using h2),h3⟩
   ·cases h
section
variable [Yo]
theorem f134 (n:Int):FG 134 [I n] (.bool (decide (-100000≤n)&&decide (n≤100000))):=by
 refine zAi Try.f134 ?_
 refine zAb (zAa (zAe 1 (zAc (zAb (zAa (zAe 1 (S_a [(10,.ret (PV.bool (decide (-100000≤n)&&decide (n≤100000))) ([]))] (ap (f78 (n) (-100000) (100000)) an) (zAe 1 (zAc (zAD (E_a [] an (PV.bool (decide (-100000≤n)&&decide (n≤100000))) ([]) rfl rfl)))))))))))
theorem f126_6  (x:Int):FG 126 [I x,.ref (.func 134 [] [])] (.bool (!(decide (-100000≤x)&&decide (x≤100000)))):=by
 refine zAi Try.f126 ?_
 refine zAb (zAa (zAe 1 (zAc (zAb (zAa (zAe 2 (S_a [(6,.ret (PV.bool (decide (-100000≤x)&&decide (x≤100000))) ([]))] (ap (f134 (x)) an) (zAe 2 (zAc (zAD (E_a [] an (PV.bool !(decide (-100000≤x)&&decide (x≤100000))) ([]) rfl rfl)))))))))))
theorem f118_6n  (l:List Int) (hl:l.length<4294967296):FG 118 [zCb l,.func 126 [] [.ref (.func 134 [] [])]] (I (zGA (fun x => !(decide (-100000≤x)&&decide (x≤100000))) l)):=by
 refine zAi Try.f118 ?_
 refine zAb (zAa (zAe 1 (zAc (zAb (zAb (zAa (zAe 1 (S_a [(0,.n (l.length))] (ap ((by simp):some (List.map I l).length=some l.length) an) (zAe 1 (zAc (zAm 0 ?_)))))))))))
 refine zBc (fun i=>i≤l.length∧∀ j,j<i→(fun x => !(decide (-100000≤x)&&decide (x≤100000))) (l.getD j 0)=false) (fun i=>[(8,I (i:Nat))]) (fun i=>l.length-i) (0:Nat) (by simp) fun i ⟨hi,ha⟩=>?_
 refine zAb (zAa (zAe 1 (zAc (zAb (zCC ((↑i:Int)<(↑l.length:Int)) (fun k0=>(zAn (zAb (zAm 1 (zAb (zAa (zAe 2 (zAc (zAb (zAa (zAe 3 (S_a [(2,.v (I (l.getD i 0)))] (ap (zBd (0) (by omega):(List.map I l)[i]? = some (I (l.getD i 0))) an) (zAe 1 (S_a [(7,.ret (PV.bool !(decide (-100000≤l.getD i 0)&&decide (l.getD i 0≤100000))) ([]))] (ap (f126_6 (l.getD i 0)) an) (zAc (zIx (!(decide (-100000≤l.getD i 0)&&decide (l.getD i 0≤100000))) (fun k1=>(zAb (zAa (zAe 2 (zAc (zAD (E_a [] an (I (↑i:Int)) ([]) ?_ rfl))))))) (fun k1=>(zAn (zAa (S_a [(1,.v (I (↑(i+1):Int)))] (ap ((zAH (by omega) (by omega)):I (IntKind.i64.wrap ((↑i:Int)+1))=I (↑(i+1):Int)) an) (zAe 1 (zAc ?_)))))))))))))))))))))) (fun k0=>(zBA 0 (zAb (zAa (zAe 1 (zAc (zAD (E_a [] an (I (-1)) ([]) ?_ rfl)))))))))))))
 ·rw [zCV (i:=i) (by omega) (fun j hj=>by rw [← zAE (d:=0)];exact ha j hj) (by rw [← zAE (d:=0)];assumption)]
 ·refine ⟨i+1,⟨by omega,fun j hj=>?_⟩,by omega,by kernel_rfl,by kernel_rfl⟩
  rcases Nat.lt_succ_iff_lt_or_eq.1 hj with h | rfl
  ·exact ha j h
  ·assumption
 ·rw [zDA fun j hj=>by rw [← zAE (d:=0)];exact ha j (by omega)]
theorem f65_6n  (l:List Int) (hl:l.length<4294967296):FG 65 [zCb l,.func 126 [] [.ref (.func 134 [] [])]] (.bool (l.any (fun x => !(decide (-100000≤x)&&decide (x≤100000))))):=by
 refine zAi Try.f65 ?_
 refine zAb (zAa (zAe 1 (zAc (zAb (zAa (zAe 2 (S_a [(6,.ret (I (zGA (fun x => !(decide (-100000≤x)&&decide (x≤100000))) l)) ([]))] (ap (f118_6n (l) (by omega)) an) (zAe 2 (zAc (zAD (E_a [] an (PV.bool (decide (zGA (fun x => !(decide (-100000≤x)&&decide (x≤100000))) l≥0))) ([]) ?_ rfl)))))))))))
 rw [zFn]
theorem f79_6  (l:List Int) (hl:l.length<4294967296):FG 79 [zCb l,.func 134 [] []] (.bool (l.all (fun x=>decide (-100000≤x)&&decide (x≤100000)))):=by
 refine zAi Try.f79 ?_
 refine zAb (zAa (zAe 2 (zAc (zAb (zAa (zAe 2 (S_a [(12,.ret (PV.bool (l.any fun x => !(decide (-100000≤x)&&decide (x≤100000)))) ([]))] (ap (f65_6n (l) (by omega)) an) (zAe 2 (zAc (zAD (E_a [] an (PV.bool !l.any fun x => !(decide (-100000≤x)&&decide (x≤100000))) ([]) ?_ rfl)))))))))))
 simp [List.not_any_eq_all_not]
theorem f108 (l:List Int) (hl:l.length<4294967296):FG 108 [zCb l] (I (zBG l)):=by
 by_cases h8:l.length≤8
 ·by_cases hr:(!l.all (fun x=>decide (-100000≤x)&&decide (x≤100000)))=false
  ·have hin:=zMc hr
   have hb:∀ x∈l,-1000000000000≤x∧x≤1000000000000:=fun x hx=>by have:=hin x hx;omega
   refine zAi Try.f108 ?_
   refine zAb (zAa (zAe 1 (zAc (zAb (zAm 0 (zAb (zAa (zAe 1 (S_a [(0,.n (l.length))] (ap ((by simp):some (List.map I l).length=some l.length) an) (zAe 2 (zAc (zB3 ((↑l.length:Int)>8) (by omega) (zAb (zAa (zAe 1 (S_a [(7,.ret (PV.bool (l.all fun x=>decide (-100000≤x)&&decide (x≤100000))) ([]))] (ap (f79_6 (l) (by omega)) an) (zAe 2 (zAc (zIx (!l.all fun x=>decide (-100000≤x)&&decide (x≤100000)) (fun k0=>(zAb (zAa (zAe 1 (zAc (zAD (E_a [] an (I 3) ([]) ?_ rfl))))))) (fun k0=>(zAb (zAa (zAe 1 (S_a [(6,.ret (I l.sum) ([]))] (ap (f81a (l) (by omega) (by omega)) an) (zAe 2 (zAc (zGd (l.sum=0) (fun k1=>(zAb (zAa (zAe 1 (zAc (zAD (E_a [] an (I 8) ([]) ?_ rfl))))))) (fun k1=>(zAn (zAb (zAa (zAe 1 (zAc (zAD (E_a [] an (I 0) ([]) ?_ rfl)))))))))))))))))))))))))))))))))))
   ·rw [hr] at k0;cases k0
   ·have e:zBG l=8:=by simp only [zBG,if_neg (show ¬ (l.length:Int)>8 by omega),hr,k1,if_false];rfl
    rw [e]
   ·have e:zBG l=0:=by simp only [zBG,if_neg (show ¬ (l.length:Int)>8 by omega),hr,k1,if_true];rfl
    rw [e]
  ·have hr:(!l.all (fun x=>decide (-100000≤x)&&decide (x≤100000)))=true:=by simpa using hr
   refine zAi Try.f108 ?_
   refine zAb (zAa (zAe 1 (zAc (zAb (zAm 0 (zAb (zAa (zAe 1 (S_a [(0,.n (l.length))] (ap ((by simp):some (List.map I l).length=some l.length) an) (zAe 2 (zAc (zB3 ((↑l.length:Int)>8) (by omega) (zAb (zAa (zAe 1 (S_a [(7,.ret (PV.bool (l.all fun x=>decide (-100000≤x)&&decide (x≤100000))) ([]))] (ap (f79_6 (l) (by omega)) an) (zAe 2 (zAc (zIx (!l.all fun x=>decide (-100000≤x)&&decide (x≤100000)) (fun k0=>(zAb (zAa (zAe 1 (zAc (zAD (E_a [] an (I 3) ([]) ?_ rfl))))))) (fun k0=>(zAb (zAa (zAe 1 (S_a [(6,.ret (I (zUB l)) ([]))] (ap (f81 (l) (by omega)) an) (zAe 2 (zAc (zGd (zUB l=0) (fun k1=>(zAb (zAa (zAe 1 (zAc (zAD (E_a [] an (I 8) ([]) ?_ rfl))))))) (fun k1=>(zAn (zAb (zAa (zAe 1 (zAc (zAD (E_a [] an (I 0) ([]) ?_ rfl)))))))))))))))))))))))))))))))))))
   ·have e:zBG l=3:=by simp only [zBG,if_neg (show ¬ (l.length:Int)>8 by omega),hr,if_true]
    rw [e]
   ·rw [hr] at k0;cases k0
   ·rw [hr] at k0;cases k0
 ·refine zAi Try.f108 ?_
  have e:zBG l=2:=by simp only [zBG,if_pos (show (l.length:Int)>8 by omega)]
  rw [e]
  refine zAb (zAa (zAe 1 (zAc (zAb (zAm 0 (zAb (zAa (zAe 1 (S_a [(0,.n (l.length))] (ap ((by simp):some (List.map I l).length=some l.length) an) (zAe 2 (zAc (zBN ((↑l.length:Int)>8) (by omega) (zAb (zAa (zAe 1 (zAc (zAD (E_a [] an (I 2) ([]) rfl rfl))))))))))))))))))
end
end Go.Eng
set_option maxRecDepth 10000
namespace Go.Eng
open Go
def zUm:List (List Int)→Int→Nat
 | [],_=>0
 | g::now,x=>if x∈g then 0 else zUm now x+1
theorem zIC:∀ {now:List (List Int)} {x:Int},now.flatten.Nodup→x∈now.flatten→∀ c,zUm now x=c↔x∈now.getD c []
 | [],x,_,h,_=>by simp at h
 | g :: now,x,hn,h,c=>by
  simp only [List.flatten_cons] at hn h
  rw [List.nodup_append] at hn
  obtain ⟨n1,n2,n3⟩:=hn
  simp only [zUm]
  by_cases hg:x∈g
  ·rw [if_pos hg]
   cases c with
   | zero=>simp [hg]
   | succ c =>
    simp only [List.getD_cons_succ]
    refine ⟨fun h=>by omega,fun h=>?_⟩
    by_cases hc:c<now.length
    ·rw [show now.getD c []=now[c] by simp [List.getD,List.getElem?_eq_getElem hc]] at h
     exact (n3 x hg x (List.mem_flatten.2 ⟨_,List.getElem_mem _,h⟩) rfl).elim
    ·rw [List.getD_eq_getElem?_getD,List.getElem?_eq_none (by omega)] at h;simp at h
  ·rw [if_neg hg]
   have hx:x∈now.flatten:=(List.mem_append.1 h).elim (fun h=>absurd h hg) id
   cases c with
   | zero=>simp [hg]
   | succ c =>
    simp only [List.getD_cons_succ]
    rw [← zIC n2 hx c];omega
theorem zC7 {now:List (List Int)} {c:Nat} (h:c<now.length):now.getD c []∈now:=by
 rw [show now.getD c []=now[c] by simp [List.getD,List.getElem?_eq_getElem h]];exact List.getElem_mem _
theorem zK4 {now:List (List Int)} {c:Nat} {x:Int} (h:x∈now.getD c []):c<now.length∧x∈now.flatten:=by
 by_cases hc:c<now.length
 ·exact ⟨hc,List.mem_flatten.2 ⟨_,zC7 hc,h⟩⟩
 ·rw [List.getD_eq_getElem?_getD,List.getElem?_eq_none (by omega)] at h;simp at h
theorem zNf {bal:List Int} {now:List (List Int)} (h:zGL bal now=true) {c:Nat} (hc:c<now.length):zCZ bal (now.getD c [])=0:=by
 have:=List.all_eq_true.1 h _ (zC7 hc)
 simpa using this
theorem zLB {bal:List Int} {p:Nat→Prop} [DecidablePred p] {n:Nat} (h:∀ x,x<n→bal.getD x 0≠0→¬ p x):zFc bal p n=0:=by
 rw [zEv (q:=fun _=>False) (fun x hx hb=>⟨fun hp=>h x hx hb hp,False.elim⟩)]
 induction n with
 | zero=>rfl
 | succ n ih=>simp only [zFc,ih fun x hx=>h x (by omega),if_false];rfl
theorem zVe {l:List Int} (h:l.Pairwise (· < ·)):l.Nodup:=h.imp fun uR e=>by omega
theorem zRY {bal:List Int} {now:List (List Int)} (h:GrpOk bal bal.length now) (hz:zGL bal now=true) (hmax:zEd bal bal.length []≤now.length) {j:Nat} (hj:j<now.length) {a b:List Int} (uR:now.getD j []=a++b) (ha:a≠[]) (hb:b≠[]):zCZ bal a≠0:=by
 intro ha0
 obtain ⟨j1,j2,j3⟩:=h.el _ (zC7 hj)
 rw [uR] at j1 j2 j3
 have yQ:=zVe j2
 rw [List.nodup_append] at yQ
 have v9:zCZ bal b=0:=by
  have:=zNf hz hj
  rw [uR,zNb] at this;omega
 have yu:∀ x:Nat,x<bal.length→bal.getD x 0≠0→∀ c,zUm now (x:Int)=c↔(x:Int)∈now.getD c []:=fun x hx hb=>zIC h.nd (h.cov x hx hb)
 let f:Nat→Nat:=fun x=>if (x:Int)∈a then now.length else zUm now x
 have hf:∀ x,f x=if (x:Int)∈a then now.length else zUm now x:=fun x=>rfl
 have gL : ∀ c,zFc bal (fun x=>f x=c) bal.length=0:=by
  intro c
  by_cases hc:c=now.length
  ·subst hc
   rw [zEv (q:=fun x=>(x:Int)∈a) fun x hx hb=>?_,zIb yQ.1 fun x hx=>by have:=j3 x (List.mem_append_left _ hx);omega]
   ·exact ha0
   ·rw [hf]
    by_cases jS:(x:Int)∈a
    ·simp [jS]
    ·rw [if_neg jS,yu x hx hb]
     exact ⟨fun h=>absurd (zK4 h).1 (Nat.lt_irrefl _),fun h=>absurd h jS⟩
  ·by_cases hcj:c=j
   ·subst hcj
    rw [zEv (q:=fun x=>(x:Int)∈b) fun x hx hb=>?_,zIb yQ.2.1 fun x hx=>by have:=j3 x (List.mem_append_right _ hx);omega]
    ·exact v9
    ·rw [hf]
     by_cases jS:(x:Int)∈a
     ·rw [if_pos jS]
      exact ⟨fun h=>absurd h.symm hc,fun h=>(yQ.2.2 _ jS _ h rfl).elim⟩
     ·rw [if_neg jS,yu x hx hb,uR,List.mem_append]
      exact ⟨fun h=>h.elim (fun h=>absurd h jS) id,.inr⟩
   ·by_cases yL:c<now.length
    ·obtain ⟨c1,c2,c3⟩:=h.el _ (zC7 yL)
     rw [zEv (q:=fun x=>(x:Int)∈now.getD c []) fun x hx hb=>?_,zIb (zVe c2) fun x hx=>by have:=c3 x hx;omega]
     ·exact zNf hz yL
     ·rw [hf]
      by_cases jS:(x:Int)∈a
      ·rw [if_pos jS]
       refine ⟨fun h=>absurd h.symm hc,fun h=>?_⟩
       have e1:=(yu x hx hb c).2 h
       have e2:=(yu x hx hb j).2 (by rw [uR];exact List.mem_append_left _ jS)
       omega
      ·rw [if_neg jS,yu x hx hb]
    ·refine zLB fun x hx hb hfx=>?_
     rw [hf] at hfx
     by_cases jS:(x:Int)∈a
     ·rw [if_pos jS] at hfx;omega
     ·rw [if_neg jS,yu x hx hb] at hfx
      exact yL (zK4 hfx).1
 have gp:=zFe gL bal.length [] (Nat.le_refl _) List.nodup_nil (fun c _=>by rw [Nat.sub_self];rfl)
 have yV:=(zGN (bal:=bal) (f:=f) bal.length [] (Nat.le_refl _)).2
 have j0:∀ c,c<now.length+1→c∈zQ0 bal f bal.length []:=by
  intro c hc
  have put:∀ x:Int,0≤x→x<bal.length→zBR bal x≠0→f x.toNat∈zQ0 bal f bal.length []:=fun x h1 h2 h3=>yV x.toNat (by omega) (by omega) h3
  by_cases hcn:c=now.length
  ·subst hcn
   obtain ⟨x,hx⟩:=List.exists_mem_of_ne_nil _ ha
   obtain ⟨p,q,r⟩:=j3 x (List.mem_append_left _ hx)
   have:=put x p q r
   rwa [hf,Int.toNat_of_nonneg p,if_pos hx] at this
  ·by_cases hcj:c=j
   ·subst hcj
    obtain ⟨x,hx⟩:=List.exists_mem_of_ne_nil _ hb
    obtain ⟨p,q,r⟩:=j3 x (List.mem_append_right _ hx)
    have:=put x p q r
    rw [hf,Int.toNat_of_nonneg p,if_neg (fun jS=>yQ.2.2 _ jS _ hx rfl)] at this
    have gM:=(zIC h.nd (zK4 (c:=c) (x:=x) (by rw [uR];exact List.mem_append_right _ hx)).2 c).2 (by rw [uR];exact List.mem_append_right _ hx)
    rwa [gM] at this
   ·have yL:c<now.length:=by omega
    obtain ⟨c1,c2,c3⟩:=h.el _ (zC7 yL)
    obtain ⟨x,hx⟩:=List.exists_mem_of_ne_nil _ c1
    obtain ⟨p,q,r⟩:=c3 x hx
    have:=put x p q r
    have ji:=(zK4 hx).2
    have gM:=(zIC h.nd ji c).2 hx
    rw [hf,Int.toNat_of_nonneg p,if_neg (fun jS=>?_),gM] at this
    ·exact this
    ·have:=(zIC h.nd ji j).2 (by rw [uR];exact List.mem_append_left _ jS)
     omega
 have:=zOb j0
 simp only [List.map_nil] at gp
 omega
def zFb (bal:List Int):List (List Int):=zDi bal bal.length [] []
theorem zNT {bal:List Int} {f:Nat→Nat} (hf:∀ x,f x=0):∀ n,n≤bal.length→zFc bal (fun x=>f x=0) n=(bal.take n).sum
 | 0,_=>rfl
 | n+1,h=>by
  show zFc bal (fun x=>f x=0) n+(if f n=0 then bal.getD n 0 else 0)=_
  rw [zNT hf n (by omega),zNR (by omega),if_pos (hf n)]
theorem zI6 {bal:List Int} (h:bal.sum=0):GrpOk bal bal.length (zFb bal)∧zGL bal (zFb bal)=true∧((zFb bal).length:Int)=zEd bal bal.length []:=by
 have gL:∀ c,zFc bal (fun x=>(fun _=>0) x=c) bal.length=0:=fun c=>by
  by_cases hc:c=0
  ·subst hc
   have:=zNT (bal:=bal) (f:=fun _=>0) (fun _=>rfl) bal.length (Nat.le_refl _)
   rw [List.take_of_length_le (Nat.le_refl _),h] at this
   exact this
  ·exact zLB fun x _ _ e=>hc e.symm
 have gp:=zFe (f:=fun _=>0) gL bal.length [] (Nat.le_refl _) List.nodup_nil (fun c _=>by rw [Nat.sub_self];rfl)
 simp only [List.map_nil] at gp
 have hO:((zFb bal).length:Int)=zEd bal bal.length []:=by
  have:=zKD (bal:=bal) bal.length [] []
  simp only [List.map_nil,List.length_nil] at this
  unfold zFb;omega
 rcases zKs (bal:=bal) bal.length [] [] (Nat.le_refl _) (by rw [Nat.sub_self];exact zTS bal) with h1 | h1
 ·have e:zFb bal=[]:=h1
  rw [e] at hO ⊢
  have h0:∀ x,x<bal.length→bal.getD x 0=0:=fun x hx=>by
   by_cases hb:bal.getD x 0=0
   ·exact hb
   ·have hm:=(zGN (bal:=bal) (f:=fun _=>0) bal.length [] (Nat.le_refl _)).2 x (by omega) hx hb
    have:=List.length_pos_of_mem hm
    simp only [List.length_nil] at hO
    omega
  refine ⟨⟨fun g hg=>(by cases hg),by simp,fun x hx hb=>absurd (h0 x hx) hb,?_,List.Pairwise.nil⟩,rfl,hO⟩
  rw [List.take_of_length_le (Nat.le_refl _)]
  have:bal.filter (fun x=>decide (x≠0))=[]:=by
   rw [List.filter_eq_nil_iff]
   intro x hx
   obtain ⟨i,hi,rfl⟩:=List.getElem_of_mem hx
   have:=h0 i hi
   simp [List.getD,List.getElem?_eq_getElem hi] at this
   simp [this]
  rw [this];rfl
 ·exact ⟨h1.1,h1.2,hO⟩
structure Pay where
 src:Int
 dst:Int
 coins:Int
 deriving Inhabited,DecidableEq
def zKy (bal:List Int):Int→List Int→List Pay
 | n,p::q::l=>(if n+zBR bal p>0 then [⟨q,p,n+zBR bal p⟩] else if n+zBR bal p<0 then [⟨p,q,-(n+zBR bal p)⟩] else [])++zKy bal (n+zBR bal p) (q::l)
 | _,_=>[]
def zPe (who:Int) (p:Pay):Int:=(if p.src=who then p.coins else 0)-(if p.dst=who then p.coins else 0)
def zH3 (who:Int) (l:List Pay):Int:=(l.map (zPe who)).sum
def zM0 (bal:List Int) (l:List Pay) (who:Nat):Int:=bal.getD who 0+zH3 who l
theorem zIQ {who:Int} {a b:List Pay}:zH3 who (a++b)=zH3 who a+zH3 who b:=by simp [zH3]
def zFF (bal:List Int) (who:Int) (l:List Int):Int:=(l.map fun x=>if x=who then zBR bal x else 0).sum
theorem zL0 {bal:List Int} {who:Int} {a b:List Int}:zFF bal who (a++b)=zFF bal who a+zFF bal who b:=by simp [zFF]
theorem zNU {bal:List Int} {who:Int}:∀ (l:List Int) (n:Int) (p:Int),zH3 who (zKy bal n (p::l))+(if p=who then n else 0)+zFF bal who (p::l)=if (p::l).getLast (by simp)=who then n+zCZ bal (p::l) else 0
 | [],n,p=>by
  simp only [zKy,List.getLast_singleton]
  show 0+_+_=_
  simp only [zFF,zCZ,List.map_cons,List.map_nil,List.sum_cons,List.sum_nil]
  by_cases h:p=who<;>simp [h]
 | q :: l,n,p=>by
  have ih:=zNU (bal:=bal) (who:=who) l (n+zBR bal p) q
  simp only [zKy]
  rw [zIQ]
  have hf:zH3 who (if n+zBR bal p>0 then [⟨q,p,n+zBR bal p⟩] else if n+zBR bal p<0 then [⟨p,q,-(n+zBR bal p)⟩] else [])=(if q=who then n+zBR bal p else 0)-(if p=who then n+zBR bal p else 0):=by
   by_cases h1:n+zBR bal p>0
   ·rw [if_pos h1];simp [zH3,zPe]
   ·rw [if_neg h1]
    by_cases h2:n+zBR bal p<0
    ·rw [if_pos h2]
     simp only [zH3,zPe,List.map_cons,List.map_nil,List.sum_cons,List.sum_nil]
     split<;>split<;>omega
    ·rw [if_neg h2]
     have:n+zBR bal p=0:=by omega
     rw [this];simp [zH3]
  have e1:zFF bal who (p::q::l)=(if p=who then zBR bal p else 0)+zFF bal who (q::l):=by simp [zFF]
  have e2:zCZ bal (p::q::l)=zBR bal p+zCZ bal (q::l):=by simp [zCZ]
  rw [hf,e1,e2,List.getLast_cons (by simp)]
  split at ih<;>rename_i hl
  ·rw [if_pos hl]
   by_cases hp:p=who<;>by_cases hq:q=who<;>simp only [hp,hq,if_true,if_false] at ih ⊢ <;> omega
  ·rw [if_neg hl]
   by_cases hp:p=who<;>by_cases hq:q=who<;>simp only [hp,hq,if_true,if_false] at ih ⊢ <;> omega
theorem zO1 {bal:List Int} {who:Int} {l:List Int} (hI:l≠[]) (hz:zCZ bal l=0):zH3 who (zKy bal 0 l) = -zFF bal who l:=by
 cases l with
 | nil=>exact (hI rfl).elim
 | cons p l =>
  have:=zNU (bal:=bal) (who:=who) l 0 p
  rw [hz] at this
  simp only [Int.add_zero,ite_self] at this
  omega
def zFa (bal:List Int) (gs:List (List Int)):List Pay:=gs.flatMap (zKy bal 0)
theorem zNN {bal:List Int} {who:Int}:∀ {gs:List (List Int)},(∀ g∈gs,g≠[]∧zCZ bal g=0)→zH3 who (zFa bal gs) = -zFF bal who gs.flatten
 | [],_=>rfl
 | g::gs,h=>by
  have ih:=zNN (who:=who) (gs:=gs) fun g hg=>h g (by simp [hg])
  simp only [zFa,List.flatMap_cons,List.flatten_cons] at ih ⊢
  rw [zIQ,zL0,ih,zO1 (h g (by simp)).1 (h g (by simp)).2];omega
theorem zHj {bal:List Int} {who:Int}:∀ {l:List Int},who∉l→zFF bal who l=0
 | [],_=>rfl
 | x::l,h=>by
  simp only [List.mem_cons,not_or] at h
  have:=zHj (bal:=bal) h.2
  simp only [zFF,List.map_cons,List.sum_cons] at this ⊢
  rw [this,if_neg (fun e=>h.1 e.symm)];rfl
theorem zLF {bal:List Int} {who:Int}:∀ {l:List Int},l.Nodup→who∈l→zFF bal who l=zBR bal who
 | [],_,h=>by cases h
 | x :: l,hn,h=>by
  rw [List.nodup_cons] at hn
  simp only [zFF,List.map_cons,List.sum_cons]
  by_cases hx:x=who
  ·subst hx
   have:=zHj (bal:=bal) hn.1
   simp only [zFF] at this
   rw [if_pos rfl,this];omega
  ·have:=zLF (bal:=bal) hn.2 ((List.mem_cons.1 h).elim (fun e=>absurd e.symm hx) id)
   simp only [zFF] at this
   rw [if_neg hx,this];omega
theorem zOg {bal:List Int} {gs:List (List Int)} (h:GrpOk bal bal.length gs) (hz:zGL bal gs=true) (who:Nat) (hw:who<bal.length):zM0 bal (zFa bal gs) who=0:=by
 have hg:∀ g∈gs,g≠[]∧zCZ bal g=0:=fun g hg=>⟨(h.el g hg).1,by simpa using List.all_eq_true.1 hz g hg⟩
 unfold zM0
 rw [zNN hg]
 by_cases hb:bal.getD who 0=0
 ·by_cases hm:(who:Int)∈gs.flatten
  ·exact absurd hb (by have:=(zPn h hm).2.2;rwa [zFk] at this)
  ·rw [zHj hm,hb];rfl
 ·rw [zLF h.nd (h.cov who hw hb),zFk];omega
def zGF (n:Nat) (p:Pay):Prop:=(0≤p.src∧p.src≤(n:Int)-1)∧(0≤p.dst∧p.dst≤(n:Int)-1)∧p.src≠p.dst∧1≤p.coins∧p.coins≤1000000
theorem zOl {bal:List Int} (h:∀ x∈bal,-100000≤x∧x≤100000) (p:Int) : -100000≤zBR bal p∧zBR bal p≤100000:=by
 unfold zBR
 by_cases hp:p.toNat<bal.length
 ·exact zB6 h _ hp
 ·rw [List.getD_eq_getElem?_getD,List.getElem?_eq_none (by omega)];simp
theorem zSZ {bal:List Int} (hb:∀ x∈bal,-100000≤x∧x≤100000):∀ (l:List Int) (n:Int) (d:Nat),l.Pairwise (· < ·)→(∀ x∈l,0≤x∧x<bal.length)→(-(100000*d:Int)≤n∧n≤100000*d)→d+l.length≤10→∀ p∈zKy bal n l,zGF bal.length p
 | [],_,_,_,_,_,_,p,hp=>by simp [zKy] at hp
 | [_],_,_,_,_,_,_,p,hp=>by simp [zKy] at hp
 | x :: y::l,n,d,hs,hr,hn,hd,p,hp=>by
  have hbx:=zOl hb x
  have hx:=hr x (by simp)
  have hy:=hr y (by simp)
  rw [List.pairwise_cons] at hs
  have hxy:=hs.1 y (by simp)
  simp only [List.length_cons] at hd
  simp only [zKy] at hp
  rcases List.mem_append.1 hp with hp | hp
  ·split at hp
   ·rw [List.mem_singleton] at hp;subst hp
    refine ⟨?_,?_,?_,?_,?_⟩<;>simp only<;>omega
   ·split at hp
    ·rw [List.mem_singleton] at hp;subst hp
     refine ⟨?_,?_,?_,?_,?_⟩<;>simp only<;>omega
    ·cases hp
  ·exact zSZ hb (y::l) (n+zBR bal x) (d+1) hs.2 (fun z hz=>hr z (by simp [hz])) (by omega) (by simp only [List.length_cons];omega) p hp
theorem zQo {bal:List Int}:∀ (l:List Int) (n:Int),(∀ a b,l=a++b→a≠[]→b≠[]→n+zCZ bal a≠0)→(zKy bal n l).length=l.length-1
 | [],_,_=>rfl
 | [_],_,_=>rfl
 | x :: y::l,n,h=>by
  have h1:=h [x] (y::l) rfl (by simp) (by simp)
  have e:zCZ bal [x]=zBR bal x:=by simp [zCZ]
  rw [e] at h1
  have ih:=zQo (bal:=bal) (y::l) (n+zBR bal x) fun a b uR ha hb=>by
   have:=h (x::a) b (by rw [uR];rfl) (by simp) hb
   have e:zCZ bal (x::a)=zBR bal x+zCZ bal a:=by simp [zCZ]
   rw [e] at this;omega
  simp only [zKy]
  rw [List.length_append,ih]
  simp only [List.length_cons]
  split
  ·simp;omega
  ·split
   ·simp;omega
   ·exfalso;omega
theorem zMN {now:List (List Int)} {g:List Int} (h:g∈now):g.length≤now.flatten.length:=by
 obtain ⟨a,b,rfl⟩:=List.append_of_mem h
 simp;omega
theorem zKI {bal:List Int} {m:Nat} {now:List (List Int)} (h:GrpOk bal m now):now.flatten.length≤bal.length∧now.length≤now.flatten.length:=by
 constructor
 ·rw [h.cnt]
  exact Nat.le_trans (List.length_filter_le _ _) (by simp;omega)
 ·have:∀ {l:List (List Int)},(∀ g∈l,g≠[])→l.length≤l.flatten.length:=by
   intro l
   induction l with
   | nil=>intro _;exact Nat.le_refl _
   | cons g l ih =>
    intro hl
    have h1:=ih fun g hg=>hl g (by simp [hg])
    have h2:=hl g (by simp)
    have:0<g.length:=List.length_pos_iff.2 h2
    simp only [List.flatten_cons,List.length_append,List.length_cons];omega
  exact this fun g hg=>(h.el g hg).1
theorem zQD {bal:List Int} (hb:BalOk bal):∀ p∈zFa bal (zFb bal),zGF bal.length p:=by
 intro p hp
 obtain ⟨h,hz,hm⟩:=zI6 hb.sum
 obtain ⟨g,hg,hpg⟩:=List.mem_flatMap.1 hp
 obtain ⟨g1,g2,g3⟩:=h.el g hg
 have hl:=zMN hg
 have:=(zKI h).1
 have hb8:=hb.len
 exact zSZ hb.rng g 0 0 g2 (fun x hx=>by have:=g3 x hx;omega) (by omega) (by omega) p hpg
theorem zR8 {bal:List Int} (hb:BalOk bal):(zFa bal (zFb bal)).length+(zFb bal).length=(bal.filter fun x=>decide (x≠0)).length:=by
 obtain ⟨h,hz,hm⟩:=zI6 hb.sum
 have hc:=h.cnt
 rw [List.take_of_length_le (Nat.le_refl _)] at hc
 rw [← hc]
 have:∀ (gs:List (List Int)),(∀ g∈gs,g≠[]∧(zKy bal 0 g).length=g.length-1)→(zFa bal gs).length+gs.length=gs.flatten.length:=by
  intro gs
  induction gs with
  | nil=>intro _;rfl
  | cons g gs ih =>
   intro hl
   have h1:=ih fun g hg=>hl g (by simp [hg])
   obtain ⟨h2,h3⟩:=hl g (by simp)
   have:0<g.length:=List.length_pos_iff.2 h2
   simp only [zFa,List.flatMap_cons,List.length_append,List.length_cons,List.flatten_cons] at h1 ⊢
   omega
 refine this _ fun g hg=>⟨(h.el g hg).1,zQo g 0 fun a b uR ha yE=>?_⟩
 obtain ⟨j,hj,rfl⟩:=List.getElem_of_mem hg
 have:=zRY h hz (by omega) hj (a:=a) (b:=b) (by rw [← uR];simp [List.getD,List.getElem?_eq_getElem hj]) ha yE
 omega
theorem zKa {who:Int}:∀ {l:List Pay} {i:Nat} (_:i<l.length),zH3 who (l.eraseIdx i)=zH3 who l-zPe who (l.getD i default)
 | [],_,h=>absurd h (Nat.not_lt_zero _)
 | p::l,0,_=>by simp [zH3];omega
 | p::l,i+1,h=>by
  have:=zKa (who:=who) (l:=l) (i:=i) (by simpa using h)
  simp only [List.eraseIdx_cons_succ,List.getD_cons_succ]
  simp only [zH3,List.map_cons,List.sum_cons] at this ⊢
  omega
theorem zTe {n:Nat} {who:Int} {p:Pay} (h:zGF n p) : -1000000≤zPe who p∧zPe who p≤1000000:=by
 obtain ⟨_,_,h3,h4⟩:=h
 unfold zPe;split<;>split<;>omega
theorem zPR {n:Nat} {who:Int}:∀ {l:List Pay},(∀ p∈l,zGF n p)→-(1000000*(l.length:Int))≤zH3 who l∧zH3 who l≤1000000*(l.length:Int)
 | [],_=>by simp [zH3]
 | p::l,h=>by
  have ih:=zPR (who:=who) (l:=l) fun q hq=>h q (by simp [hq])
  have h1:=zTe (who:=who) (h p (by simp))
  simp only [zH3,List.map_cons,List.sum_cons,List.length_cons] at ih ⊢
  omega
end Go.Eng
set_option maxRecDepth 10000
set_option maxHeartbeats 4000000
namespace Go.Eng
open Go Go.Proofs
abbrev zAA (p:Pay):PV := .agg [I p.src,I p.dst,I p.coins]
def zS8 (n:Nat) (p:Pay):Bool:=(decide (0≤p.src)&&decide (p.src≤(n:Int)-1))&&((decide (0≤p.dst)&&decide (p.dst≤(n:Int)-1))&&(decide (p.src≠p.dst)&&(decide (1≤p.coins)&&decide (p.coins≤1000000))))
theorem zK6 {n:Nat} {p:Pay}:zS8 n p=true↔zGF n p:=by
 simp only [zS8,zGF,Bool.and_eq_true,decide_eq_true_eq]
def zMB (bal:List Int) (l:List Pay):Bool:=l.all (zS8 bal.length)&&(List.range bal.length).all fun who=>decide (zM0 bal l who=0)
def zFz (bal:List Int) (l:List Pay):Bool:=if zBG bal=0 then zMB bal l else false
def zLR (bal:List Int) (l:List Pay):List Int:=(List.range bal.length).map fun who=>zM0 bal l who
theorem zCK {bal:List Int} {l:List Pay}:(zLR bal l).length=bal.length:=by simp [zLR]
theorem zFG {bal:List Int} {l:List Pay} {c:Nat} (h:c<bal.length):(zLR bal l).getD c 0=zM0 bal l c:=by
 simp [zLR,List.getD,h]
theorem zQ6 {who:Int} {l:List Pay} {i:Nat} (h:i<l.length):zH3 who (l.take (i+1))=zH3 who (l.take i)+zPe who (l.getD i default):=by
 rw [List.take_add_one,List.getElem?_eq_getElem h,zAE h]
 simp only [zH3,List.map_append,List.sum_append,Option.toList,List.map_cons,List.map_nil,List.sum_cons,List.sum_nil];omega
theorem zNY {bal:List Int} {l:List Pay} {i:Nat} (h:i<l.length) (hp:zGF bal.length (l.getD i default)) :
  ((zLR bal (l.take i)).set (l.getD i default).src.toNat ((zLR bal (l.take i)).getD (l.getD i default).src.toNat 0+(l.getD i default).coins)).set (l.getD i default).dst.toNat (((zLR bal (l.take i)).set (l.getD i default).src.toNat ((zLR bal (l.take i)).getD (l.getD i default).src.toNat 0+(l.getD i default).coins)).getD (l.getD i default).dst.toNat 0-(l.getD i default).coins)=zLR bal (l.take (i+1)):=by
 generalize hq:l.getD i default=p at *
 obtain ⟨h1,h2,h3,h4⟩:=hp
 apply List.ext_getElem
 ·simp [zCK]
 ·intro j g1 g2
  rw [zCK] at g2
  have e1:∀ (m:List Int) (hj:j<m.length),m[j]=m.getD j 0:=fun m hj=>(zAE hj).symm
  rw [e1,e1,zEh,zEh,zEh,zFG g2,zFG (l:=l.take i) (c:=p.src.toNat) (by omega),zFG (l:=l.take i) (c:=p.dst.toNat) (by omega),zFG (l:=l.take (i+1)) g2]
  simp only [List.length_set,zCK,g2,and_true]
  unfold zM0
  rw [zQ6 h,hq]
  have ts:zPe (j:Int) p=(if p.src.toNat=j then p.coins else 0)-(if p.dst.toNat=j then p.coins else 0):=by
   unfold zPe
   have e3:(p.src=(j:Int))=(p.src.toNat=j):=propext (by omega)
   have e4:(p.dst=(j:Int))=(p.dst.toNat=j):=propext (by omega)
   simp only [e3,e4]
  rw [ts]
  have hI:p.src.toNat≠p.dst.toNat:=by omega
  by_cases hd:p.dst.toNat=j
  ·subst hd
   simp [hI];omega
  ·by_cases hs:p.src.toNat=j
   ·subst hs
    simp [hd];omega
   ·simp [hd,hs]
theorem zQY {bal:List Int} {l:List Pay} (hb:∀ x∈bal,-100000≤x∧x≤100000) (hl:∀ p∈l,zGF bal.length p) (hn:l.length≤100) (c:Nat) : -1000000000≤(zLR bal l).getD c 0∧(zLR bal l).getD c 0≤1000000000:=by
 by_cases hc:c<bal.length
 ·rw [zFG hc]
  have h1:=zPR (who:=(c:Int)) hl
  have h2:=zB6 hb c hc
  unfold zM0;omega
 ·rw [List.getD_eq_getElem?_getD,List.getElem?_eq_none (by rw [zCK];omega)];simp
theorem zMT {n:Nat} {l:List Pay} {i:Nat} (h:∀ j,j<i→zGF n (l.getD j default)) (hi:i≤l.length):∀ p∈l.take i,zGF n p:=by
 intro p hp
 obtain ⟨j,hj,rfl⟩:=List.getElem_of_mem hp
 have hj':j<i:=by simp at hj;omega
 have:=h j hj'
 rw [zAE (by omega)] at this
 simpa using this
theorem zRC {bal:List Int} {l:List Pay}:(zLR bal l).all (fun x=>decide (x=0))=(List.range bal.length).all fun who=>decide (zM0 bal l who=0):=by
 simp [zLR,List.all_map,Function.comp_def]
theorem zVk {α:Type} {p:α→Bool} {l:List α} {i:Nat} {d:α} (h:i<l.length) (hx:p (l.getD i d)=false):l.all p=false:=by
 rw [List.all_eq_false]
 exact ⟨l.getD i d,by rw [zAE h];exact List.getElem_mem _,by rw [hx];exact Bool.false_ne_true⟩
theorem zT0 {α:Type} {p:α→Bool} {l:List α} {d:α} (h:∀ i,i<l.length→p (l.getD i d)=true):l.all p=true:=by
 rw [List.all_eq_true]
 intro x hx
 obtain ⟨j,hj,rfl⟩:=List.getElem_of_mem hx
 have:=h j hj
 rwa [zAE hj] at this
section
variable [Yo]
theorem f110 (n:Int):FG 110 [I n] (.bool (decide (n=0))):=by
 refine zAi Try.f110 ?_
 refine zAb (zAa (zAe 1 (zAc (zAb (zAa (zAe 3 (zAc (zAD (E_a [] an (PV.bool (n==0)) ([]) rfl rfl)))))))))
theorem f126_7  (x:Int):FG 126 [I x,.ref (.func 110 [] [])] (.bool (!(decide (x=0)))):=by
 refine zAi Try.f126 ?_
 refine zAb (zAa (zAe 1 (zAc (zAb (zAa (zAe 2 (S_a [(6,.ret (PV.bool (decide (x=0))) ([]))] (ap (f110 (x)) an) (zAe 2 (zAc (zAD (E_a [] an (PV.bool !decide (x=0)) ([]) rfl rfl)))))))))))
theorem f118_7n  (l:List Int) (hl:l.length<4294967296):FG 118 [zCb l,.func 126 [] [.ref (.func 110 [] [])]] (I (zGA (fun x => !(decide (x=0))) l)):=by
 refine zAi Try.f118 ?_
 refine zAb (zAa (zAe 1 (zAc (zAb (zAb (zAa (zAe 1 (S_a [(0,.n (l.length))] (ap ((by simp):some (List.map I l).length=some l.length) an) (zAe 1 (zAc (zAm 0 ?_)))))))))))
 refine zBc (fun i=>i≤l.length∧∀ j,j<i→(fun x => !(decide (x=0))) (l.getD j 0)=false) (fun i=>[(8,I (i:Nat))]) (fun i=>l.length-i) (0:Nat) (by simp) fun i ⟨hi,ha⟩=>?_
 refine zAb (zAa (zAe 1 (zAc (zAb (zCC ((↑i:Int)<(↑l.length:Int)) (fun k0=>(zAn (zAb (zAm 1 (zAb (zAa (zAe 2 (zAc (zAb (zAa (zAe 3 (S_a [(2,.v (I (l.getD i 0)))] (ap (zBd (0) (by omega):(List.map I l)[i]? = some (I (l.getD i 0))) an) (zAe 1 (S_a [(7,.ret (PV.bool !decide (l.getD i 0=0)) ([]))] (ap (f126_7 (l.getD i 0)) an) (zAc (zGd (l.getD i 0=0) (fun k1=>(zAb (zAa (zAe 2 (zAc (zAD (E_a [] an (I (↑i:Int)) ([]) ?_ rfl))))))) (fun k1=>(zAn (zAa (S_a [(1,.v (I (↑(i+1):Int)))] (ap ((zAH (by omega) (by omega)):I (IntKind.i64.wrap ((↑i:Int)+1))=I (↑(i+1):Int)) an) (zAe 1 (zAc ?_)))))))))))))))))))))) (fun k0=>(zBA 0 (zAb (zAa (zAe 1 (zAc (zAD (E_a [] an (I (-1)) ([]) ?_ rfl)))))))))))))
 ·rw [zCV (i:=i) (by omega) (fun j hj=>by rw [← zAE (d:=0)];exact ha j hj) (by rw [← zAE (d:=0)];first | assumption | (simp only [Bool.not_eq_true',decide_eq_false_iff_not];assumption))]
 ·refine ⟨i+1,⟨by omega,fun j hj=>?_⟩,by omega,by kernel_rfl,by kernel_rfl⟩
  rcases Nat.lt_succ_iff_lt_or_eq.1 hj with h | rfl
  ·exact ha j h
  ·first | assumption | (simp only [Bool.not_eq_false',decide_eq_true_eq];first | assumption | (apply Decidable.of_not_not;assumption))
 ·rw [zDA fun j hj=>by rw [← zAE (d:=0)];exact ha j (by omega)]
theorem f65_7n  (l:List Int) (hl:l.length<4294967296):FG 65 [zCb l,.func 126 [] [.ref (.func 110 [] [])]] (.bool (l.any (fun x => !(decide (x=0))))):=by
 refine zAi Try.f65 ?_
 refine zAb (zAa (zAe 1 (zAc (zAb (zAa (zAe 2 (S_a [(6,.ret (I (zGA (fun x => !decide (x=0)) l)) ([]))] (ap (f118_7n (l) (by omega)) an) (zAe 2 (zAc (zAD (E_a [] an (PV.bool (decide (zGA (fun x => !decide (x=0)) l≥0))) ([]) ?_ rfl)))))))))))
 rw [zFn]
theorem f79_7  (l:List Int) (hl:l.length<4294967296):FG 79 [zCb l,.func 110 [] []] (.bool (l.all (fun x=>decide (x=0)))):=by
 refine zAi Try.f79 ?_
 refine zAb (zAa (zAe 2 (zAc (zAb (zAa (zAe 2 (S_a [(12,.ret (PV.bool (l.any fun x => !decide (x=0))) ([]))] (ap (f65_7n (l) (by omega)) an) (zAe 2 (zAc (zAD (E_a [] an (PV.bool !l.any fun x => !decide (x=0)) ([]) ?_ rfl)))))))))))
 simp [List.not_any_eq_all_not]
theorem f45 (bal:List Int) (l:List Pay) (hl:l.length≤100) (vI:bal.length<4294967296):FG 45 [zCb bal,.sl (l.map zAA)] (.tup [.bool (zFz bal l),I (zBG bal)]):=by
 by_cases hb:zBG bal=0
 ·have hbo:=zN4 hb
  have hb8:=hbo.len
  have hw:zLR bal []=bal:=by
   apply List.ext_getElem
   ·simp [zCK]
   ·intro j h1 h2
    have:=zFG (bal:=bal) (l:=[]) h2
    rw [zAE (by rw [zCK];exact h2)] at this
    rw [this];simp only [zM0,zH3,List.map_nil,List.sum_nil,Int.add_zero];exact zAE h2
  have h108:=f108 bal vI
  rw [hb] at h108 ⊢
  refine zAi Try.f45 ?_
  refine zAb (zAa (zAe 2 (zAc (zAb (zAb (zAa (zAe 1 (S_a [(6,.ret (I 0) ([]))] (ap (h108) an) (zAe 1 (zAc (zAb (zAa (zAe 2 (zAc (zAY (zAn (zAb (zAa (zAe 1 (S_a [(6,.ret (PV.own 1 (List.map I bal)) ([]))] (ap (f109 (bal) (by omega)) an) (zAe 1 (zAc (zAb (zAb (zAa (zAe 1 (S_a [(0,.n (l.length))] (ap ((by simp):some (List.map zAA l).length=some l.length) an) (zAe 1 (zAc (zAm 0 ?_))))))))))))))))))))))))))))))
  refine zBc (fun (i,o)=>i≤l.length∧o=zLR bal (l.take i)∧∀ j,j<i→zGF bal.length (l.getD j default)) (fun (i,o)=>[(7,.own 1 (o.map I)),(19,I (i:Nat))]) (fun (i,_)=>l.length-i) ((0:Nat),bal) ⟨Nat.zero_le _,hw.symm,fun j hj=>absurd hj (Nat.not_lt_zero _)⟩ fun (i,o) ⟨hi,ho,hj⟩=>?_
  have hol:o.length=bal.length:=by rw [ho,zCK]
  have jm:∀ {q:Pay},l.getD i default=q→i<l.length→zS8 bal.length q=false→zFz bal l=false:=fun hq jP h=>by
   simp only [zFz,hb,if_true,zMB,zVk (p:=zS8 bal.length) (d:=default) jP (by rw [hq];exact h),Bool.false_and]
  have uO:=zQY (bal:=bal) (l:=l.take i) hbo.rng (zMT hj hi) (by rw [List.length_take];omega)
  rw [← ho] at uO
  by_cases jP:i<l.length
  ·by_cases hp:zS8 bal.length (l.getD i default)=true
   ·have wo:=zK6.1 hp
    have kw:=zNY jP wo
    rw [← ho] at kw
    have hpo2:=wo
    obtain ⟨p1,p2,p3,p4⟩:=hpo2
    have yT:=uO (l.getD i default).src.toNat
    have jN:=uO (l.getD i default).dst.toNat
    have hgs:(o.set (l.getD i default).src.toNat (o.getD (l.getD i default).src.toNat 0+(l.getD i default).coins)).getD (l.getD i default).dst.toNat 0=o.getD (l.getD i default).dst.toNat 0:=by
     rw [zEh,if_neg (by omega)]
    have q1:(!(decide (0≤(l.getD i default).src)&&decide ((l.getD i default).src≤((o.length-1:Nat):Int))))=false:=by rw [Bool.not_eq_false',Bool.and_eq_true,decide_eq_true_eq,decide_eq_true_eq];omega
    have q2:(!(decide (0≤(l.getD i default).dst)&&decide ((l.getD i default).dst≤((o.length-1:Nat):Int))))=false:=by rw [Bool.not_eq_false',Bool.and_eq_true,decide_eq_true_eq,decide_eq_true_eq];omega
    have q3:(!(decide (1≤(l.getD i default).coins)&&decide ((l.getD i default).coins≤1000000)))=false:=by rw [Bool.not_eq_false',Bool.and_eq_true,decide_eq_true_eq,decide_eq_true_eq];omega
    clear jm uO hp hw
    refine zAb (zAa (zAe 1 (zAc (zAb (zBN ((↑i:Int)<(↑l.length:Int)) (by omega) (zAn (zAb (zAm 1 (zAb (zAa (S_a [(2,.v (PV.agg [I (l.getD i default).src,I (l.getD i default).dst,I (l.getD i default).coins]))] (ap (zBd (default) (by omega):(List.map zAA l)[i]? = some (PV.agg [I (l.getD i default).src,I (l.getD i default).dst,I (l.getD i default).coins])) an) (zAe 3 (zAc (zAb (zAb (zAa (zAe 3 (S_a [(0,.n (o.length))] (ap ((by simp):some (List.map I o).length=some o.length) an) (S_a [(1,.v (I (↑(o.length-1):Int)))] (ap ((zAH (by omega) (by omega)):I (IntKind.i64.wrap ((↑o.length:Int)-1))=I (↑(o.length-1):Int)) an) (S_a [(10,.ret (PV.bool (decide (0≤(l.getD i default).src)&&decide ((l.getD i default).src≤(↑(o.length-1):Int)))) ([]))] (ap (f78 ((l.getD i default).src) (0) ((↑(o.length-1):Int))) an) (zAe 2 (zE7 30 (!(decide (0≤(l.getD i default).src)&&decide ((l.getD i default).src≤(↑(o.length-1):Int)))) (fun k0=>(zAe 21 (zAc (zDY (zAb (zAa (zAe 2 (zAc (zAD (E_a [] an (PV.tup [PV.bool false,I 0]) ([]) ?_ rfl)))))))))) (fun k0=>(zAe 3 (S_a [(0,.n (o.length))] (ap ((by simp):some (List.map I o).length=some o.length) an) (S_a [(1,.v (I (↑(o.length-1):Int)))] (ap ((zAH (by omega) (by omega)):I (IntKind.i64.wrap ((↑o.length:Int)-1))=I (↑(o.length-1):Int)) an) (S_a [(10,.ret (PV.bool (decide (0≤(l.getD i default).dst)&&decide ((l.getD i default).dst≤(↑(o.length-1):Int)))) ([]))] (ap (f78 ((l.getD i default).dst) (0) ((↑(o.length-1):Int))) an) (zAe 3 (zE7 39 (!(decide (0≤(l.getD i default).dst)&&decide ((l.getD i default).dst≤(↑(o.length-1):Int)))) (fun k1=>(zAe 12 (zAc (zDY (zAb (zAa (zAe 2 (zAc (zAD (E_a [] an (PV.tup [PV.bool false,I 0]) ([]) ?_ rfl)))))))))) (fun k1=>(zAe 7 (zEa 46 ((l.getD i default).src=(l.getD i default).dst) (by omega) (zAe 2 (S_a [(10,.ret (PV.bool (decide (1≤(l.getD i default).coins)&&decide ((l.getD i default).coins≤1000000))) ([]))] (ap (f78 ((l.getD i default).coins) (1) (1000000)) an) (zAe 2 (zAc (zIx (!(decide (1≤(l.getD i default).coins)&&decide ((l.getD i default).coins≤1000000))) (fun k2=>(zAb (zAa (zAe 2 (zAc (zAD (E_a [] an (PV.tup [PV.bool false,I 0]) ([]) ?_ rfl))))))) (fun k2=>(zAn (zAb (zAa (zAe 3 (S_a [(0,.ob),(1,.ob),(1,.n ((l.getD i default).src.toNat))] (ap ((by exact zAu (by omega)):decide (0≤(l.getD i default).src)=true) (ap ((by exact zAu (by simp only [List.length_map,zzLn]<;>omega)):decide ((l.getD i default).src.toNat<(List.map I o).length)=true) (ap ((by simp):some (0+(l.getD i default).src.toNat)=some (l.getD i default).src.toNat) an))) (S_a [(0,.cs false ([I (o.getD (l.getD i default).src.toNat 0)]))] (ap (zBx (q:=PV.own 1 (List.map I o)) (xs:=List.map I o) (x:=I (o.getD (l.getD i default).src.toNat 0)) rfl (zBd (0) (by omega)):zAj 7 (PV.own 1 (List.map I o)) [] (l.getD i default).src.toNat 0 1=some (false,[I (o.getD (l.getD i default).src.toNat 0)])) an) (zAe 2 (S_a [(1,.v (I (o.getD (l.getD i default).src.toNat 0+(l.getD i default).coins)))] (ap ((zAH rfl (by omega)):I (IntKind.i64.wrap (o.getD (l.getD i default).src.toNat 0+(l.getD i default).coins))=I (o.getD (l.getD i default).src.toNat 0+(l.getD i default).coins)) an) (S_a [(0,.ob),(1,.ob),(1,.n ((l.getD i default).src.toNat))] (ap ((by exact zAu (by omega)):decide (0≤(l.getD i default).src)=true) (ap ((by exact zAu (by simp only [List.length_map,zzLn]<;>omega)):decide ((l.getD i default).src.toNat<(List.map I o).length)=true) (ap ((by simp):some (0+(l.getD i default).src.toNat)=some (l.getD i default).src.toNat) an))) (S_a [(8,.root (PV.own 1 (List.map I (o.set (l.getD i default).src.toNat (o.getD (l.getD i default).src.toNat 0+(l.getD i default).coins)))) true)] (ap (zMg (zBd (0) (by omega)) zDM:zA5 (PV.own 1 (List.map I o)) [] (l.getD i default).src.toNat 0 (I (o.getD (l.getD i default).src.toNat 0+(l.getD i default).coins)).cells=some (PV.own 1 (List.map I (o.set (l.getD i default).src.toNat (o.getD (l.getD i default).src.toNat 0+(l.getD i default).coins))))∧zAp (PV.own 1 (List.map I o)) (PV.own 1 (List.map I (o.set (l.getD i default).src.toNat (o.getD (l.getD i default).src.toNat 0+(l.getD i default).coins)))) []=true) an) (zAc (zAa (zAe 3 (S_a [(0,.ob),(1,.ob),(1,.n ((l.getD i default).dst.toNat))] (ap ((by exact zAu (by omega)):decide (0≤(l.getD i default).dst)=true) (ap ((by exact zAu (by simp only [List.length_map,zzLn]<;>omega)):decide ((l.getD i default).dst.toNat<(List.map I (o.set (l.getD i default).src.toNat (o.getD (l.getD i default).src.toNat 0+(l.getD i default).coins))).length)=true) (ap ((by simp):some (0+(l.getD i default).dst.toNat)=some (l.getD i default).dst.toNat) an))) (S_a [(0,.cs false ([I ((o.set (l.getD i default).src.toNat (o.getD (l.getD i default).src.toNat 0+(l.getD i default).coins)).getD (l.getD i default).dst.toNat 0)]))] (ap (zBx (q:=PV.own 1 (List.map I (o.set (l.getD i default).src.toNat (o.getD (l.getD i default).src.toNat 0+(l.getD i default).coins)))) (xs:=List.map I (o.set (l.getD i default).src.toNat (o.getD (l.getD i default).src.toNat 0+(l.getD i default).coins))) (x:=I ((o.set (l.getD i default).src.toNat (o.getD (l.getD i default).src.toNat 0+(l.getD i default).coins)).getD (l.getD i default).dst.toNat 0)) rfl (zBd (0) ?_):zAj 7 (PV.own 1 (List.map I (o.set (l.getD i default).src.toNat (o.getD (l.getD i default).src.toNat 0+(l.getD i default).coins)))) [] (l.getD i default).dst.toNat 0 1=some (false,[I ((o.set (l.getD i default).src.toNat (o.getD (l.getD i default).src.toNat 0+(l.getD i default).coins)).getD (l.getD i default).dst.toNat 0)])) an) (zAe 2 (S_a [(1,.v (I ((o.set (l.getD i default).src.toNat (o.getD (l.getD i default).src.toNat 0+(l.getD i default).coins)).getD (l.getD i default).dst.toNat 0-(l.getD i default).coins)))] (ap ((zAH rfl (by omega)):I (IntKind.i64.wrap ((o.set (l.getD i default).src.toNat (o.getD (l.getD i default).src.toNat 0+(l.getD i default).coins)).getD (l.getD i default).dst.toNat 0-(l.getD i default).coins))=I ((o.set (l.getD i default).src.toNat (o.getD (l.getD i default).src.toNat 0+(l.getD i default).coins)).getD (l.getD i default).dst.toNat 0-(l.getD i default).coins)) an) (S_a [(0,.ob),(1,.ob),(1,.n ((l.getD i default).dst.toNat))] (ap ((by exact zAu (by omega)):decide (0≤(l.getD i default).dst)=true) (ap ((by exact zAu (by simp only [List.length_map,zzLn]<;>omega)):decide ((l.getD i default).dst.toNat<(List.map I (o.set (l.getD i default).src.toNat (o.getD (l.getD i default).src.toNat 0+(l.getD i default).coins))).length)=true) (ap ((by simp):some (0+(l.getD i default).dst.toNat)=some (l.getD i default).dst.toNat) an))) (S_a [(8,.root (PV.own 1 (List.map I ((o.set (l.getD i default).src.toNat (o.getD (l.getD i default).src.toNat 0+(l.getD i default).coins)).set (l.getD i default).dst.toNat ((o.set (l.getD i default).src.toNat (o.getD (l.getD i default).src.toNat 0+(l.getD i default).coins)).getD (l.getD i default).dst.toNat 0-(l.getD i default).coins)))) true)] (ap (zMg (zBd (0) ?_) zDM:zA5 (PV.own 1 (List.map I (o.set (l.getD i default).src.toNat (o.getD (l.getD i default).src.toNat 0+(l.getD i default).coins)))) [] (l.getD i default).dst.toNat 0 (I ((o.set (l.getD i default).src.toNat (o.getD (l.getD i default).src.toNat 0+(l.getD i default).coins)).getD (l.getD i default).dst.toNat 0-(l.getD i default).coins)).cells=some (PV.own 1 (List.map I ((o.set (l.getD i default).src.toNat (o.getD (l.getD i default).src.toNat 0+(l.getD i default).coins)).set (l.getD i default).dst.toNat ((o.set (l.getD i default).src.toNat (o.getD (l.getD i default).src.toNat 0+(l.getD i default).coins)).getD (l.getD i default).dst.toNat 0-(l.getD i default).coins))))∧zAp (PV.own 1 (List.map I (o.set (l.getD i default).src.toNat (o.getD (l.getD i default).src.toNat 0+(l.getD i default).coins)))) (PV.own 1 (List.map I ((o.set (l.getD i default).src.toNat (o.getD (l.getD i default).src.toNat 0+(l.getD i default).coins)).set (l.getD i default).dst.toNat ((o.set (l.getD i default).src.toNat (o.getD (l.getD i default).src.toNat 0+(l.getD i default).coins)).getD (l.getD i default).dst.toNat 0-(l.getD i default).coins)))) []=true) an) (zAc (zAa (S_a [(1,.v (I (↑(i+1):Int)))] (ap ((zAH (by omega) (by omega)):I (IntKind.i64.wrap ((↑i:Int)+1))=I (↑(i+1):Int)) an) (zAe 1 (zAc ?_))))))))))))))))))))))))))))))))))))))))))))))))))))))))))))))
    all_goals try first | (rw [q1] at k0;cases k0;done) | (rw [q2] at k1;cases k1;done) | (rw [q3] at k3;cases k3;done) | (rw [q3] at k2;cases k2;done) | exact absurd k2 p3 | (rw [List.length_set];omega)
    exact ⟨(i+1,_),⟨by omega,kw,fun j hj'=>by
     rcases Nat.lt_succ_iff_lt_or_eq.1 hj' with h | rfl
     ·exact hj j h
     ·exact wo⟩,by simp only;omega,by kernel_rfl,by kernel_rfl⟩
   ·have jI:¬ zGF bal.length (l.getD i default):=fun h=>hp (zK6.2 h)
    have hp:zS8 bal.length (l.getD i default)=false:=by simpa using hp
    have hf:=jm rfl jP hp
    rw [hf]
    clear jm uO hw hp hf
    refine zAb (zAa (zAe 1 (zAc (zAb (zBN ((↑i:Int)<(↑l.length:Int)) (by omega) (zAn (zAb (zAm 1 (zAb (zAa (S_a [(2,.v (PV.agg [I (l.getD i default).src,I (l.getD i default).dst,I (l.getD i default).coins]))] (ap (zBd (default) (by omega):(List.map zAA l)[i]? = some (PV.agg [I (l.getD i default).src,I (l.getD i default).dst,I (l.getD i default).coins])) an) (zAe 3 (zAc (zAb (zAb (zAa (zAe 3 (S_a [(0,.n (o.length))] (ap ((by simp):some (List.map I o).length=some o.length) an) (S_a [(1,.v (I ((↑o.length:Int)-1)))] (ap ((zAH rfl (by omega)):I (IntKind.i64.wrap ((↑o.length:Int)-1))=I ((↑o.length:Int)-1)) an) (S_a [(10,.ret (PV.bool (decide (0≤(l.getD i default).src)&&decide ((l.getD i default).src≤(↑o.length:Int)-1))) ([]))] (ap (f78 ((l.getD i default).src) (0) ((↑o.length:Int)-1)) an) (zAe 2 (zE7 30 (!(decide (0≤(l.getD i default).src)&&decide ((l.getD i default).src≤(↑o.length:Int)-1))) (fun k0=>(zAe 21 (zAc (zDY (zAb (zAa (zAe 2 (zAc (zAD (E_a [] an (PV.tup [PV.bool false,I 0]) ([]) rfl rfl)))))))))) (fun k0=>(zAe 3 (S_a [(0,.n (o.length))] (ap ((by simp):some (List.map I o).length=some o.length) an) (S_a [(1,.v (I ((↑o.length:Int)-1)))] (ap ((zAH rfl (by omega)):I (IntKind.i64.wrap ((↑o.length:Int)-1))=I ((↑o.length:Int)-1)) an) (S_a [(10,.ret (PV.bool (decide (0≤(l.getD i default).dst)&&decide ((l.getD i default).dst≤(↑o.length:Int)-1))) ([]))] (ap (f78 ((l.getD i default).dst) (0) ((↑o.length:Int)-1)) an) (zAe 3 (zE7 39 (!(decide (0≤(l.getD i default).dst)&&decide ((l.getD i default).dst≤(↑o.length:Int)-1))) (fun k1=>(zAe 12 (zAc (zDY (zAb (zAa (zAe 2 (zAc (zAD (E_a [] an (PV.tup [PV.bool false,I 0]) ([]) rfl rfl)))))))))) (fun k1=>(zAe 7 (zKF 46 ((l.getD i default).src=(l.getD i default).dst) (fun k2=>(zAe 5 (zAc (zDY (zAb (zAa (zAe 2 (zAc (zAD (E_a [] an (PV.tup [PV.bool false,I 0]) ([]) rfl rfl)))))))))) (fun k2=>(zAe 2 (S_a [(10,.ret (PV.bool (decide (1≤(l.getD i default).coins)&&decide ((l.getD i default).coins≤1000000))) ([]))] (ap (f78 ((l.getD i default).coins) (1) (1000000)) an) (zAe 2 (zAc (zIx (!(decide (1≤(l.getD i default).coins)&&decide ((l.getD i default).coins≤1000000))) (fun k3=>(zAb (zAa (zAe 2 (zAc (zAD (E_a [] an (PV.tup [PV.bool false,I 0]) ([]) rfl rfl))))))) (fun k3=>(zAn (zAb (zAa (zAe 3 (S_a [(0,.ob),(1,.ob),(1,.n ((l.getD i default).src.toNat))] (ap (?_:decide (0≤(l.getD i default).src)=true) (ap (?_:decide ((l.getD i default).src.toNat<(List.map I o).length)=true) (ap ((by simp):some (0+(l.getD i default).src.toNat)=some (l.getD i default).src.toNat) an))) (S_a [(0,.cs false ([I (o.getD (l.getD i default).src.toNat 0)]))] (ap (zBx (q:=PV.own 1 (List.map I o)) (xs:=List.map I o) (x:=I (o.getD (l.getD i default).src.toNat 0)) rfl (zBd (0) ?_):zAj 7 (PV.own 1 (List.map I o)) [] (l.getD i default).src.toNat 0 1=some (false,[I (o.getD (l.getD i default).src.toNat 0)])) an) (zAe 2 (S_a [(1,.v (I (o.getD (l.getD i default).src.toNat 0+(l.getD i default).coins)))] (ap ((zAH rfl ?_):I (IntKind.i64.wrap (o.getD (l.getD i default).src.toNat 0+(l.getD i default).coins))=I (o.getD (l.getD i default).src.toNat 0+(l.getD i default).coins)) an) (S_a [(0,.ob),(1,.ob),(1,.n ((l.getD i default).src.toNat))] (ap (?_:decide (0≤(l.getD i default).src)=true) (ap (?_:decide ((l.getD i default).src.toNat<(List.map I o).length)=true) (ap ((by simp):some (0+(l.getD i default).src.toNat)=some (l.getD i default).src.toNat) an))) (S_a [(8,.root (PV.own 1 (List.map I (o.set (l.getD i default).src.toNat (o.getD (l.getD i default).src.toNat 0+(l.getD i default).coins)))) true)] (ap (zMg (zBd (0) ?_) zDM:zA5 (PV.own 1 (List.map I o)) [] (l.getD i default).src.toNat 0 (I (o.getD (l.getD i default).src.toNat 0+(l.getD i default).coins)).cells=some (PV.own 1 (List.map I (o.set (l.getD i default).src.toNat (o.getD (l.getD i default).src.toNat 0+(l.getD i default).coins))))∧zAp (PV.own 1 (List.map I o)) (PV.own 1 (List.map I (o.set (l.getD i default).src.toNat (o.getD (l.getD i default).src.toNat 0+(l.getD i default).coins)))) []=true) an) (zAc (zAa (zAe 3 (S_a [(0,.ob),(1,.ob),(1,.n ((l.getD i default).dst.toNat))] (ap (?_:decide (0≤(l.getD i default).dst)=true) (ap (?_:decide ((l.getD i default).dst.toNat<(List.map I (o.set (l.getD i default).src.toNat (o.getD (l.getD i default).src.toNat 0+(l.getD i default).coins))).length)=true) (ap ((by simp):some (0+(l.getD i default).dst.toNat)=some (l.getD i default).dst.toNat) an))) (S_a [(0,.cs false ([I ((o.set (l.getD i default).src.toNat (o.getD (l.getD i default).src.toNat 0+(l.getD i default).coins)).getD (l.getD i default).dst.toNat 0)]))] (ap (zBx (q:=PV.own 1 (List.map I (o.set (l.getD i default).src.toNat (o.getD (l.getD i default).src.toNat 0+(l.getD i default).coins)))) (xs:=List.map I (o.set (l.getD i default).src.toNat (o.getD (l.getD i default).src.toNat 0+(l.getD i default).coins))) (x:=I ((o.set (l.getD i default).src.toNat (o.getD (l.getD i default).src.toNat 0+(l.getD i default).coins)).getD (l.getD i default).dst.toNat 0)) rfl (zBd (0) ?_):zAj 7 (PV.own 1 (List.map I (o.set (l.getD i default).src.toNat (o.getD (l.getD i default).src.toNat 0+(l.getD i default).coins)))) [] (l.getD i default).dst.toNat 0 1=some (false,[I ((o.set (l.getD i default).src.toNat (o.getD (l.getD i default).src.toNat 0+(l.getD i default).coins)).getD (l.getD i default).dst.toNat 0)])) an) (zAe 2 (S_a [(1,.v (I ((o.set (l.getD i default).src.toNat (o.getD (l.getD i default).src.toNat 0+(l.getD i default).coins)).getD (l.getD i default).dst.toNat 0-(l.getD i default).coins)))] (ap ((zAH rfl ?_):I (IntKind.i64.wrap ((o.set (l.getD i default).src.toNat (o.getD (l.getD i default).src.toNat 0+(l.getD i default).coins)).getD (l.getD i default).dst.toNat 0-(l.getD i default).coins))=I ((o.set (l.getD i default).src.toNat (o.getD (l.getD i default).src.toNat 0+(l.getD i default).coins)).getD (l.getD i default).dst.toNat 0-(l.getD i default).coins)) an) (S_a [(0,.ob),(1,.ob),(1,.n ((l.getD i default).dst.toNat))] (ap (?_:decide (0≤(l.getD i default).dst)=true) (ap (?_:decide ((l.getD i default).dst.toNat<(List.map I (o.set (l.getD i default).src.toNat (o.getD (l.getD i default).src.toNat 0+(l.getD i default).coins))).length)=true) (ap ((by simp):some (0+(l.getD i default).dst.toNat)=some (l.getD i default).dst.toNat) an))) (S_a [(8,.root (PV.own 1 (List.map I ((o.set (l.getD i default).src.toNat (o.getD (l.getD i default).src.toNat 0+(l.getD i default).coins)).set (l.getD i default).dst.toNat ((o.set (l.getD i default).src.toNat (o.getD (l.getD i default).src.toNat 0+(l.getD i default).coins)).getD (l.getD i default).dst.toNat 0-(l.getD i default).coins)))) true)] (ap (zMg (zBd (0) ?_) zDM:zA5 (PV.own 1 (List.map I (o.set (l.getD i default).src.toNat (o.getD (l.getD i default).src.toNat 0+(l.getD i default).coins)))) [] (l.getD i default).dst.toNat 0 (I ((o.set (l.getD i default).src.toNat (o.getD (l.getD i default).src.toNat 0+(l.getD i default).coins)).getD (l.getD i default).dst.toNat 0-(l.getD i default).coins)).cells=some (PV.own 1 (List.map I ((o.set (l.getD i default).src.toNat (o.getD (l.getD i default).src.toNat 0+(l.getD i default).coins)).set (l.getD i default).dst.toNat ((o.set (l.getD i default).src.toNat (o.getD (l.getD i default).src.toNat 0+(l.getD i default).coins)).getD (l.getD i default).dst.toNat 0-(l.getD i default).coins))))∧zAp (PV.own 1 (List.map I (o.set (l.getD i default).src.toNat (o.getD (l.getD i default).src.toNat 0+(l.getD i default).coins)))) (PV.own 1 (List.map I ((o.set (l.getD i default).src.toNat (o.getD (l.getD i default).src.toNat 0+(l.getD i default).coins)).set (l.getD i default).dst.toNat ((o.set (l.getD i default).src.toNat (o.getD (l.getD i default).src.toNat 0+(l.getD i default).coins)).getD (l.getD i default).dst.toNat 0-(l.getD i default).coins)))) []=true) an) (zAc (zAa (S_a [(1,.v (I (↑(i+1):Int)))] (ap ((zAH (by omega) (by omega)):I (IntKind.i64.wrap ((↑i:Int)+1))=I (↑(i+1):Int)) an) (zAe 1 (zAc ?_)))))))))))))))))))))))))))))))))))))))))))))))))))))))))))))))
    all_goals (exfalso;apply jI;unfold zGF;simp only [Bool.not_eq_false',Bool.not_eq_true',Bool.and_eq_true,decide_eq_true_eq] at k0 k1 k2 k3;omega)
  ·have hie:i=l.length:=by omega
   have yL:zFz bal l=o.all fun x=>decide (x=0):=by
    rw [ho,zRC,hie,List.take_of_length_le (Nat.le_refl _)]
    have:l.all (zS8 bal.length)=true:=zT0 (d:=default) fun j hj'=>zK6.2 (hj j (by omega))
    simp only [zFz,hb,if_true,zMB,this,Bool.true_and]
   rw [yL]
   refine zAb (zAa (zAe 1 (zAc (zAb (zB3 ((↑i:Int)<(↑l.length:Int)) (by omega) (zBA 0 (zAb (zAa (zAe 1 (S_a [(3,.ob),(0,.v (PV.sl (List.map I o))),(3,.ret (PV.bool (o.all fun x=>decide (x=0))) ([]))] (ap ((by exact zAw (by simp only [List.length_map,zzLn,zAC]<;>omega)):(0+(List.map I o).length).ble (List.map I o).length=true) (ap ((zDB (zA3 (zAM _))):PV.sl (zAx (List.take (List.map I o).length (List.drop 0 (List.map I o))))=PV.sl (List.map I o)) (ap (f79_7 (o) (by omega)) an))) (zAe 2 (zAc (zAD (E_a [] an (PV.tup [PV.bool (o.all fun x=>decide (x=0)),I 0]) ([]) rfl rfl))))))))))))))
 ·have hv:zFz bal l=false:=by simp only [zFz,hb,if_false]
  rw [hv]
  refine zAi Try.f45 ?_
  refine zAb (zAa (zAe 2 (zAc (zAb (zAb (zAa (zAe 1 (S_a [(6,.ret (I (zBG bal)) ([]))] (ap (f108 (bal) (by omega)) an) (zAe 1 (zAc (zAb (zAa (zAe 2 (zAc (zGz (zBG bal=0) (by omega) (zAb (zAa (zAe 3 (zAc (zAD (E_a [] an (PV.tup [PV.bool false,I (zBG bal)]) ([]) rfl rfl)))))))))))))))))))))
end
end Go.Eng
set_option maxRecDepth 10000
set_option maxHeartbeats 4000000
namespace Go.Eng
open Go Go.Proofs
abbrev zTQ (l:List (List Int)):PV := .sl (l.map zCb)
structure OkG (bal g:List Int):Prop where
 rng:∀ p∈g,0≤p∧p<bal.length
 len:g.length≤8
theorem zIR {bal g:List Int} {i:Nat} (h:i<g.length):zCZ bal (g.take (i+1))=zCZ bal (g.take i)+bal.getD (g.getD i 0).toNat 0:=by
 rw [List.take_add_one,List.getElem?_eq_getElem h,zAE h]
 simp only [zCZ,List.map_append,List.sum_append,Option.toList,List.map_cons,List.map_nil,List.sum_cons,List.sum_nil,zBR];omega
theorem zNl {bal g:List Int} (hb:∀ x∈bal,-100000≤x∧x≤100000) : -(100000*(g.length:Int))≤zCZ bal g∧zCZ bal g≤100000*g.length:=by
 induction g with
 | nil=>simp [zCZ]
 | cons x g ih =>
  have:=zOl hb x
  simp only [zCZ,List.map_cons,List.sum_cons,List.length_cons] at ih ⊢
  omega
section
variable [Yo]
theorem f137 (bal g:List Int) (hb:∀ x∈bal,-100000≤x∧x≤100000) (hg:OkG bal g):FG 137 [zCb g,.ref (zCb bal)] (.bool (decide (zCZ bal g=0))):=by
 have wp:=hg.len
 refine zAi Try.f137 ?_
 refine zAb (zAa (zAe 1 (zAc (zAb (zAa (zAe 1 (zAc (zAb (zAb (zAa (zAe 1 (S_a [(0,.n (g.length))] (ap ((by simp):some (List.map I g).length=some g.length) an) (zAe 1 (zAc (zAm 0 ?_)))))))))))))))
 refine zBc (fun (i,n)=>i≤g.length∧n=zCZ bal (g.take i)) (fun (i,n)=>[(4,I n),(9,I (i:Nat))]) (fun (i,_)=>g.length-i) ((0:Nat),(0:Int)) ⟨Nat.zero_le _,rfl⟩ fun (i,n) ⟨hi,hn⟩=>?_
 have vi:=zNl (g:=g.take i) hb
 rw [← hn,List.length_take] at vi
 by_cases jP:i<g.length
 ·have hp:=zB6 hg.rng i jP
  have hx:=zB6 hb (g.getD i 0).toNat (by omega)
  have kw:=zIR (bal:=bal) jP
  rw [← hn] at kw
  refine zAb (zAa (zAe 1 (zAc (zAb (zBN ((↑i:Int)<(↑g.length:Int)) (by omega) (zAn (zAb (zAm 1 (zAb (zAa (S_a [(2,.v (I (g.getD i 0)))] (ap (zBd (0) (by omega):(List.map I g)[i]? = some (I (g.getD i 0))) an) (zAe 2 (zAc (zAa (zAe 3 (S_a [(0,.ob),(1,.v (I (bal.getD (g.getD i 0).toNat 0)))] (ap ((by exact zAu (by omega)):decide (0≤g.getD i 0)=true) (ap (zBd (0) (by omega):(List.map I bal)[(g.getD i 0).toNat]? = some (I (bal.getD (g.getD i 0).toNat 0))) an)) (zAe 1 (S_a [(1,.v (I (n+bal.getD (g.getD i 0).toNat 0)))] (ap ((zAH rfl (by omega)):I (IntKind.i64.wrap (n+bal.getD (g.getD i 0).toNat 0))=I (n+bal.getD (g.getD i 0).toNat 0)) an) (zAe 1 (zAc (zAa (S_a [(1,.v (I (↑(i+1):Int)))] (ap ((zAH (by omega) (by omega)):I (IntKind.i64.wrap ((↑i:Int)+1))=I (↑(i+1):Int)) an) (zAe 1 (zAc ?_))))))))))))))))))))))))
  exact ⟨(i+1,_),⟨by omega,kw.symm⟩,by simp only;omega,by kernel_rfl,by kernel_rfl⟩
 ·rw [hn,List.take_of_length_le (by omega)]
  refine zAb (zAa (zAe 1 (zAc (zAb (zB3 ((↑i:Int)<(↑g.length:Int)) (by omega) (zBA 0 (zAb (zAa (zAe 3 (zAc (zAD (E_a [] an (PV.bool (zCZ bal g==0)) ([]) rfl rfl))))))))))))
theorem f145_8 (bal g:List Int) (hb:∀ x∈bal,-100000≤x∧x≤100000) (hg:OkG bal g):FG 145 [zCb g,.ref (.func 137 [] [.ref (zCb bal)])] (.bool (!(decide (zCZ bal g=0)))):=by
 refine zAi Try.f145 ?_
 refine zAb (zAa (zAe 1 (zAc (zAb (zAa (zAe 2 (S_a [(7,.ret (PV.bool (decide (zCZ bal g=0))) ([]))] (ap (f137 (bal) (g) (by omega) (by omega)) an) (zAe 2 (zAc (zAD (E_a [] an (PV.bool !decide (zCZ bal g=0)) ([]) rfl rfl)))))))))))
theorem f148_8 (bal:List Int) (l:List (List Int)) (hb:∀ x∈bal,-100000≤x∧x≤100000) (hg:∀ g∈l,OkG bal g) (hl:l.length≤8):FG 148 [zTQ l,.func 145 [] [.ref (.func 137 [] [.ref (zCb bal)])]] (I (zGA (fun g => !(decide (zCZ bal g=0))) l)):=by
 refine zAi Try.f148 ?_
 refine zAb (zAa (zAe 1 (zAc (zAb (zAb (zAa (zAe 1 (S_a [(0,.n (l.length))] (ap ((by simp):some (List.map zCb l).length=some l.length) an) (zAe 1 (zAc (zAm 0 ?_)))))))))))
 refine zBc (fun i=>i≤l.length∧∀ j,j<i→(fun g => !(decide (zCZ bal g=0))) (l.getD j [])=false) (fun i=>[(8,I (i:Nat))]) (fun i=>l.length-i) (0:Nat) (by simp) fun i ⟨hi,ha⟩=>?_
 by_cases jP:i<l.length
 ·have hgi:OkG bal (l.getD i []):=by rw [zAE jP];exact hg _ (List.getElem_mem _)
  have h145:=f145_8 bal (l.getD i []) hb hgi
  refine zAb (zAa (zAe 1 (zAc (zAb (zBN ((↑i:Int)<(↑l.length:Int)) (by omega) (zAn (zAb (zAm 1 (zAb (zAa (zAe 2 (zAc (zAb (zAa (zAe 3 (S_a [(2,.v (PV.sl (List.map I (l.getD i []))))] (ap (zBd ([]) (by omega):(List.map zCb l)[i]? = some (PV.sl (List.map I (l.getD i [])))) an) (zAe 1 (S_a [(7,.ret (PV.bool !decide (zCZ bal (l.getD i [])=0)) ([]))] (ap (h145) an) (zAc (zGd (zCZ bal (l.getD i [])=0) (fun k0=>(zAb (zAa (zAe 2 (zAc (zAD (E_a [] an (I (↑i:Int)) ([]) ?_ rfl))))))) (fun k0=>(zAn (zAa (S_a [(1,.v (I (↑(i+1):Int)))] (ap ((zAH (by omega) (by omega)):I (IntKind.i64.wrap ((↑i:Int)+1))=I (↑(i+1):Int)) an) (zAe 1 (zAc ?_))))))))))))))))))))))))))
  ·rw [zCV (i:=i) (by omega) (fun j hj=>by rw [← zAE (d:=[])];exact ha j hj) (by rw [← zAE (d:=[])];simp only [Bool.not_eq_true',decide_eq_false_iff_not];assumption)]
  ·refine ⟨i+1,⟨by omega,fun j hj=>?_⟩,by omega,by kernel_rfl,by kernel_rfl⟩
   rcases Nat.lt_succ_iff_lt_or_eq.1 hj with h | rfl
   ·exact ha j h
   ·simp only [Bool.not_eq_false',decide_eq_true_eq];assumption
 ·rw [zDA fun j hj=>by rw [← zAE (d:=[])];exact ha j (by omega)]
  refine zAb (zAa (zAe 1 (zAc (zAb (zB3 ((↑i:Int)<(↑l.length:Int)) (by omega) (zBA 0 (zAb (zAa (zAe 1 (zAc (zAD (E_a [] an (I (-1)) ([]) rfl rfl))))))))))))
theorem f144_8 (bal:List Int) (l:List (List Int)) (hb:∀ x∈bal,-100000≤x∧x≤100000) (hg:∀ g∈l,OkG bal g) (hl:l.length≤8):FG 144 [zTQ l,.func 145 [] [.ref (.func 137 [] [.ref (zCb bal)])]] (.bool (l.any (fun g => !(decide (zCZ bal g=0))))):=by
 have h:=f148_8 bal l hb hg hl
 refine zAi Try.f144 ?_
 refine zAb (zAa (zAe 1 (zAc (zAb (zAa (zAe 2 (S_a [(7,.ret (I (zGA (fun g => !decide (zCZ bal g=0)) l)) ([]))] (ap (h) an) (zAe 2 (zAc (zAD (E_a [] an (PV.bool (decide (zGA (fun g => !decide (zCZ bal g=0)) l≥0))) ([]) ?_ rfl)))))))))))
 rw [zFn]
theorem f136_8 (bal:List Int) (l:List (List Int)) (hb:∀ x∈bal,-100000≤x∧x≤100000) (hg:∀ g∈l,OkG bal g) (hl:l.length≤8):FG 136 [zTQ l,.func 137 [] [.ref (zCb bal)]] (.bool (zGL bal l)):=by
 have h:=f144_8 bal l hb hg hl
 refine zAi Try.f136 ?_
 refine zAb (zAa (zAe 2 (zAc (zAb (zAa (zAe 2 (S_a [(12,.ret (PV.bool (l.any fun g => !decide (zCZ bal g=0))) ([]))] (ap (h) an) (zAe 2 (zAc (zAD (E_a [] an (PV.bool !l.any fun g => !decide (zCZ bal g=0)) ([]) ?_ rfl)))))))))))
 simp [zGL,List.not_any_eq_all_not]
end
end Go.Eng
