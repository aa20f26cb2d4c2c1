/- Just those ye are left with an earlier notice alone that are told; who jN a notice has it by a path; and with the further cries that are told nobody is left, or gaps are told that no cry mends; for every list of numbers, evening and stands. -/
import Derived.Test.YtppbomajegnkeaaGreatPc
import Derived.Test.YtppbomajegnkeaaGreatPa
import Derived.KernelRfl
import Derived.IntWalk
set_option linter.unusedVariables false
set_option linter.unusedSimpArgs false
set_option linter.unusedSectionVars false
open Nat (beq ble blt)
open List (map replicate take drop range length filter)
open Go.Eng.PV (own agg addr func sl bor tup omap bad bool int)
namespace Go.Eng
open Go
section
variable {P:Program} {H:zBh} {w0 w:World} {U Φ0 Φ:Nat->Prop} {nt:Nat} {hv:Hid} {a:Act} {e e':Env} {rv:Nat->Value} {E:Nat->PV} {L:Nat->LN} {o:zAM}
theorem zXo(S:St w0 U Φ0 nt hv a w e Φ rv E L){g:Nat}(hg:zAa<=g){k:PV->PM}{k2:PM}(h:(zRz (E g) k k2).run o e=some e') :
  k2.run o e=some e'\/∃ e1 rv1 E1,(k (E1 g)).run o e1=some e'/\Worked w0 U Φ0 nt hv a w rv E g e1 rv1 E1:=by
 have hX:=S.conf.rep g
 have fin:∀ {r:Nat} {pre:zA4} {q root p':PV} (hr:r<zAa) (yF:(E r).unlock=E r) (hq:zAC (E r) pre=some q) (h1:q.oneCell=true) (hm:zAz (fun _=>some .bad) (E r) pre=some root),
   (E g).oneCell=true->p'.oneCell=true->(∀ nv Li,zA3 w (rv r) (E r) pre=some (nv,q)->Rep w Φ (zBb w rv E) q nv Li->Li.Nodup->∃ Lg,Rep w Φ (zBb w rv E) p' (rv g) Lg/\Lg.Nodup/\∀ b∈Lg,b∈Li) ->
   (k p').run o (e.set r root)=some e'->∃ e1 rv1 E1,(k (E1 g)).run o e1=some e'/\Worked w0 U Φ0 nt hv a w rv E g e1 rv1 E1:=by
  intro r pre q root p' hr yF hq h1 hm ul jq yg hk;obtain⟨kk1,kk2⟩:=zB0 (q' := .bad) rfl rfl hm;obtain⟨nv,Li,g1,g2,g3,g4,g5⟩:=S.taken hg hr yF hq h1 hm kk1 kk2;obtain⟨Lg,p1,p2,p3⟩:=yg nv Li g1 g2 g3;obtain⟨L',S1,wQ⟩:=g5 p' (rv g) Lg p1 p2 (fun b hb=>.inl (p3 b hb));have ja:∀ s,upd rv g (rv g) s=rv s:=fun s=>by
   by_cases hs:s=g
   ·subst hs;rw[zAi]
   ·rw[zAf hs]
  refine⟨_,_,_,by rw[zAi];exact hk,⟨⟨_,_,S1⟩,ja g,fun s _=>ja s,fun s hs hI=>⟨by rw[zAf hI,zAf (by omega)],ja s⟩,?_,?_⟩⟩
  ·rw[zAi,(zBu jq).2,(zBu ul).2]
  ·rw[zAi,(zBu jq).1,(zBu ul).1];rfl
 generalize hE:E g=p at h;rw[hE] at hX;simp only[zRz] at h;split at h
 ·rename_i r pre z lo n;obtain⟨q,hq,h1⟩:=zBW h;obtain⟨_,hr,⟨b,cap,yI,_⟩,hn⟩:=hX;split at h1
  ·rename_i sz xs
   cases hc:ble (lo+n) xs.length with
   |false=>rw[hc] at h1;exact .inl h1|true=>
    rw[hc] at h1;simp only[cond_true] at h1;obtain⟨root,hl,hm,h2⟩:=zCa h1;have yF:=zBQ hl;rw[yF,<- S.env r hr] at hq;rw[<- S.env r hr] at yF hm;refine .inr (fin hr yF hq rfl hm (by rw[hE];rfl) rfl (fun nv Li hf um yV=>?_) h2);obtain⟨s2,xs2,q1,q2,q3⟩:=hn nv _ (by rw[yF];exact hf) rfl;cases q1;subst q2;obtain⟨Lg,p1,p2,p3⟩:=zIP um (br hc) q3;exact⟨Lg,p1,p3 yV,p2⟩
  ·exact .inl h1
 ·rename_i r pre sh;obtain⟨q,hq,h1⟩:=zBW h;obtain⟨_,hr,b,yI,y9,hn⟩:=hX;split at h1
  ·rename_i q;obtain⟨root,hl,hm,h2⟩:=zCa h1;have yF:=zBQ hl;rw[yF,<- S.env r hr] at hq;rw[<- S.env r hr] at yF hm;refine .inr (fin hr yF hq rfl hm (by rw[hE];rfl) rfl (fun nv Li hf um yV=>?_) h2);refine⟨Li,?_,yV,fun b hb=>hb⟩;have hrp':=um;obtain⟨x,c,u,L',h3,h4,h5,_⟩:=hrp';have h6:nv=rv g:=by
    rw[yI,h4];have:=hn nv _ (by rw[yF];exact hf) x (by rw[h4];cases x;simp_all[zBe,zAx]);rw[this]
   rw[<- h6];exact um
  ·exact .inl h1
 ·rename_i r pre;obtain⟨q,hq,h1⟩:=zBW h;obtain⟨_,hr,⟨b,yI⟩,hn⟩:=hX;split at h1
  ·rename_i es;obtain⟨root,hl,hm,h2⟩:=zCa h1;have yF:=zBQ hl;rw[yF,<- S.env r hr] at hq;rw[<- S.env r hr] at yF hm;refine .inr (fin hr yF hq rfl hm (by rw[hE];rfl) rfl (fun nv Li hf um yV=>⟨Li,?_,yV,fun b hb=>hb⟩) h2);rw[hn nv _ (by rw[yF];exact hf) _ rfl];exact um
  ·exact .inl h1
 ·exact .inl h
theorem zMP(S:St w0 U Φ0 nt hv a w e Φ rv E L){g:Nat}(hg:zAa<=g){frz:Bool}{k:PV->PM}(h:(zFW frz (E g) k).run o e=some e'):∃ e1 rv1 E1,(k (E1 g)).run o e1=some e'/\Worked w0 U Φ0 nt hv a w rv E g e1 rv1 E1:=by
 have iced:(zLy zAk zDp (E g) k).run o e=some e'->∃ e1 rv1 E1,(k (E1 g)).run o e1=some e'/\Worked w0 U Φ0 nt hv a w rv E g e1 rv1 E1:=by
  intro h;obtain⟨e1,Φ1,E1,L1,h1,S1,h2,h3,h4,h5,h6,h7⟩:=zH0 (hb:=zAk) hg (by decide) zDp S h;exact⟨e1,rv,E1,h1,⟨⟨_,_,S1⟩,rfl,fun _ _=>rfl,fun s hs hI=>⟨h3 s hs hI,rfl⟩,h6,h7⟩⟩
 simp only[zFW] at h
 cases hc:(frz||(E g).ways.any fun w=>ble zAk w.1) with
 |true=>rw[hc] at h;exact iced h|false=>
  rw[hc] at h;simp only[cond_false] at h;rcases zXo S hg h with h|h
  ·exact iced h
  ·exact h
theorem zK8{frz:Bool}:∀ (ps:List PV) (i:Nat) {k:List PV->PM} {e:Env} {Φ:Nat->Prop} {rv:Nat->Value} {E:Nat->PV} {L:Nat->LN},St w0 U Φ0 nt hv a w e Φ rv E L->(∀ (j:Nat) (p:PV),ps[j]? = some p->E (zAa+i+j)=p)->(zCJ frz ps k).run o e=some e' ->
  ∃ e1 Φ1 rv1 E1 L1 qs,(k qs).run o e1=some e'/\St w0 U Φ0 nt hv a w e1 Φ1 rv1 E1 L1/\qs.length=ps.length/\(∀ (j:Nat) (q:PV),qs[j]? = some q->E1 (zAa+i+j)=q/\rv1 (zAa+i+j)=rv (zAa+i+j)) /\
   (∀ s,s<zAa->rv1 s=rv s)/\∀ s,zAa<=s->(s<zAa+i\/zAa+i+ps.length<=s)->E1 s=E s/\rv1 s=rv s
 |[],i,k,e,Φ,rv,E,L,S,hp,h=>⟨e,Φ,rv,E,L,[],h,S,rfl,by simp,fun _ _=>rfl,fun _ _ _=>⟨rfl,rfl⟩⟩
 | p :: ps,i,k,e,Φ,rv,E,L,S,hp,h=>by
  simp only[zCJ] at h;have hE:=hp 0 p rfl;simp only[bL] at hE;rw[<- hE] at h;obtain⟨e1,rv1,E1,h1,W⟩:=zMP S (g:=zAa+i) (by omega) h;obtain⟨Φ1,L1,S1⟩:=W.st;obtain⟨e2,Φ2,rv2,E2,L2,qs,h2,S2,h3,h4,h5,h6⟩:=zK8 ps (i+1) S1 (fun j q hq=>by
   rw[(W.rest _ (by omega) (by omega)).1,show zAa+(i+1)+j=zAa+i+(j+1) by omega];exact hp (j+1) q (by simpa using hq)) h1
  refine⟨e2,Φ2,rv2,E2,L2,E1 (zAa+i)::qs,h2,S2,by simp[h3],fun j q hq=>?_,fun s hs=>(h5 s hs).trans (W.low s hs),fun s hs kD=>?_⟩
  ·cases j with
   |zero=>
    simp at hq;subst hq;obtain⟨k1,k2⟩:=h6 (zAa+i) (by omega) (.inl (by omega));simp only[bL];exact⟨k1,k2.trans W.val⟩
   |succ j=>
    obtain⟨k1,k2⟩:=h4 j q (by simpa using hq);rw[show zAa+(i+1)+j=zAa+i+(j+1) by omega] at k1 k2;exact⟨k1,k2.trans (W.rest _ (by omega) (by omega)).2⟩
  ·obtain⟨k1,k2⟩:=h6 s hs (by simp at kD;omega);obtain⟨k3,k4⟩:=W.rest s hs (by simp at kD;omega);exact⟨k1.trans k3,k2.trans k4⟩
theorem zLe(C:Conf w0 U Φ0 w Φ rv E L):∀ (qs:List PV) (vs:List Value) (i:Nat),vs.length=qs.length->(∀ (j:Nat) (q:PV) (v:Value),qs[j]? = some q->vs[j]? = some v->E (i+j)=q/\rv (i+j)=v) ->
  ∃ Lp,zBa w Φ (zBb w rv E) qs vs Lp/\Lp.Nodup/\∀ b∈Lp,∃ t,i<=t/\t<i+qs.length/\b∈L t
 |[],vs,i,hl,h=>by
  have:vs=[]:=bq (by simpa using hl);subst this;exact⟨[],⟨rfl,rfl⟩,b4,by simp⟩
 | q :: qs,vs,i,hl,h=>by
  match vs,hl,h with
  | v :: vs,hl,h =>
   obtain⟨h1,h2⟩:=h 0 q v rfl rfl;simp only[bL] at h1 h2;obtain⟨Lp,k1,k2,k3⟩:=zLe C qs vs (i+1) (by simpa using hl) fun j q' v' hq hv=>by
    rw[show i+1+j=i+(j+1) by omega];exact h (j+1) q' v' (by simpa using hq) (by simpa using hv)
   have hr:=C.rep i;rw[h1,h2] at hr;refine⟨L i++Lp,⟨v,vs,_,_,rfl,rfl,hr,k1⟩,?_,fun b hb=>?_⟩
   ·rw[bI];refine⟨C.nodup i,k2,fun x hx y hy e=>?_⟩;obtain⟨t,k4,k5,k6⟩:=k3 y hy;exact C.disj i t (by omega) x hx (e▸k6)
   ·rcases bg.1 hb with hb|hb
    ·exact⟨i,bi _,by simp,hb⟩
    ·obtain⟨t,k4,k5,k6⟩:=k3 b hb;exact⟨t,by omega,by simp;omega,k6⟩
theorem zNr(S:St w0 U Φ0 nt hv a w e Φ rv E L){j g:Nat}(hj:j<1000)(hg:zAa<=g)(hb:∀ s,zAa<=s->s≠g->E s = .bad){k:PM}(h:(lay (zAI+j) (E g) k).run o e=some e') :
  ∃ e1 E1 L1,k.run o e1=some e'/\St w0 U Φ0 nt hv a w e1 Φ (upd rv (zAI+j) (rv g)) E1 L1/\zBz E1:=by
 have hh:zAk=50000000:=rfl;have ho:zAI=60000000:=rfl;have qM:zAa=1000000000:=rfl;have kB:=S.small;obtain⟨e1,E1,L1,h1,C,h2,h3,h4,h5,h6⟩:=zTu S (d:=zAI+j) (by omega) hg h;have vB:∀ d ps,d≠zAI+j->d<zAa->E1 d = .tup ps->∃ ps',E d = .tup ps'/\ps'.length=ps.length:=by
  intro d ps hd vI hp;rcases h3 d hd vI with h7|h7
  ·exact⟨ps,by rw[<- h7,hp],rfl⟩
  ·rw[h7] at hp;exact zEg (zIO _ _) hp
 refine⟨e1,E1,L1,h1,⟨C,h2,S.size,S.small,fun t ht=>?_,fun d ps i hd hp hi=>?_,fun s h7 h8=>?_,S.dfr⟩,fun s hs=>?_⟩
 ·rw[zAf (by omega)];exact S.tmps t ht
 ·obtain⟨ps',h7,h8⟩:=vB d ps (by omega) (by omega) hp;obtain⟨h9,vs,jZ,vg⟩:=S.parts d ps' i hd h7 (by omega);refine⟨h9,vs,by rw[zAf (by omega)];exact jZ,?_⟩;rw[zAf (by simp only[zBD];omega)];exact vg
 ·rw[zAf (by omega)];exact S.hid s h7 h8
 ·by_cases yn:s=g
  ·subst yn;exact h5
  ·rcases h6 s hs yn with h7|h7
   ·rw[h7];exact hb s hs yn
   ·rw[h7,hb s hs yn];rfl
theorem zYU(S:St w0 U Φ0 nt hv a w e Φ rv E L)(hb:zBz E){frz:Bool}{j:Nat}(hj:j<1000){p:PV}{v:Value}(hp:Rep w Φ (zBb w rv E) p v []){k:PM}(h:(zGW frz p fun q=>lay (zAI+j) q k).run o e=some e') :
  ∃ e1 Φ1 rv1 E1 L1,k.run o e1=some e'/\St w0 U Φ0 nt hv a w e1 Φ1 rv1 E1 L1/\zBz E1/\rv1 (zAI+j)=v/\∀ s,s<zAa->s≠zAI+j->rv1 s=rv s:=by
 have ho:zAI=60000000:=rfl;have qM:zAa=1000000000:=rfl;have single:(zFW frz p fun q=>lay (zAI+j) q k).run o e=some e'->∃ e1 Φ1 rv1 E1 L1,k.run o e1=some e'/\St w0 U Φ0 nt hv a w e1 Φ1 rv1 E1 L1/\zBz E1/\rv1 (zAI+j)=v/\∀ s,s<zAa->s≠zAI+j->rv1 s=rv s:=by
  intro h;have S1:=S.hold (g:=zAa) (bi _) hp;obtain⟨e1,rv1,E1,h1,W⟩:=zMP S1 (g:=zAa) (bi _) (by rw[zAi];exact h);obtain⟨Φ1,L1,S2⟩:=W.st;obtain⟨e2,E2,L2,h2,S3,gU⟩:=zNr S2 hj (bi zAa) (fun s hs hI=>by rw[(W.rest s hs hI).1,zAf hI];exact hb s hs) h1;refine⟨e2,Φ1,_,E2,L2,h2,S3,gU,?_,fun s hs hI=>?_⟩
  ·rw[zAi,W.val,zAi]
  ·rw[zAf hI,W.low s hs,zAf (by omega)]
 simp only[zGW] at h;split at h
 ·rename_i cs;obtain⟨vs,rfl,hr⟩:=hp;obtain⟨rv1,E1,L1,S1,k1,k2,k3⟩:=zMm cs vs.toList 1 S hr;have yO:=hr.length;have yY:∀ (j:Nat) (p:PV),cs[j]? = some p->∃ v,vs.toList[j]? = some v:=fun j p hj=>⟨_,bk (by have:=(bf.1 hj).1;omega)⟩;obtain⟨e2,Φ2,rv2,E2,L2,qs,h2,S2,h3,h4,h5,h6⟩:=zK8 cs 1 S1 (fun j p hjp=>by
   obtain⟨v,yI⟩:=yY j p hjp;exact(k2 j p v hjp yI).1) h
  have vj:∀ s,zAa<=s->(s<zAa+1\/zAa+1+cs.length<=s)->E2 s = .bad:=fun s hs kD=>by
   rw[(h6 s hs kD).1,(k3 s hs kD).1];exact hb s hs
  have hval:∀ (j:Nat) (q:PV) (v:Value),qs[j]? = some q->vs.toList[j]? = some v->E2 (zAa+1+j)=q/\rv2 (zAa+1+j)=v:=fun j q v hq yI=>by
   obtain⟨m1,m2⟩:=h4 j q hq;have y5:j<cs.length:=by have:=(bf.1 hq).1;omega
   have:=k2 j _ v (bk y5) yI;exact⟨m1,m2.trans this.2.1⟩
  obtain⟨Lp,r1,r2,r3⟩:=zLe S2.conf qs vs.toList (zAa+1) (by omega) hval;have hG:∀ s,decide (zAa+1<=s/\s<zAa+1+cs.length)=true↔zAa+1<=s/\s<zAa+1+cs.length:=fun s=>decide_eq_true_iff
  have hc:=S2.conf.make (w':=w) (fun s=>decide (zAa+1<=s/\s<zAa+1+cs.length)) (fun s hs=>by have:=(hG s).1 hs;omega) (g:=zAa) (bi _) (p := .agg qs) (v := .agg vs) (Lp:=Lp)
   (fun A hA=>⟨vs,rfl,r1.mono zDq.refl hA (fun _ _=>rfl)⟩) r2 (fun b hb=>by
    obtain⟨t,q1,q2,q3⟩:=r3 b hb;exact .inl ⟨t,q3,(hG t).2 ⟨q1,by omega⟩⟩) (bi _) (fun _ _ _=>rfl) ⟨rfl,rfl,rfl⟩
  have jD:∀ s,s<zAa->decide (zAa+1<=s/\s<zAa+1+cs.length)=false:=fun s hs=>decide_eq_false (by omega);have S3:=S2.turn (e':=e2) hc (fun s hs=>by
   rw[zAf (by omega)];simp only[jD s hs,bp,if_false];exact S2.env s hs) (fun s hs=>zAf (by omega)) (fun d ps hd hp=>by
   rw[zAf (by omega)] at hp;simp only[jD d (by omega),bp,if_false] at hp;exact⟨ps,hp,rfl⟩)
  obtain⟨e4,E4,L4,m1,S4,m2⟩:=zNr S3 hj (bi zAa) (fun s hs hI=>by
   rw[zAf hI];by_cases h7:s<zAa+1+cs.length
   ·simp only[(hG s).2 ⟨by omega,h7⟩,if_true]
   ·have:decide (zAa+1<=s/\s<zAa+1+cs.length)=false:=decide_eq_false (by omega);simp only[this,bp,if_false];exact vj s hs (by omega)) (by rw[zAi];exact h2)
  refine⟨e4,Φ2,_,E4,L4,m1,S4,m2,?_,fun s hs hI=>?_⟩
  ·rw[zAi,zAi]
  ·rw[zAf hI,zAf (by omega),h5 s hs,(k1 s hs).2]
 ·exact single h
def zYY(nt:Nat):ResultVar->Bool
 |.tmp t=>blt t nt|.cell t _=>blt t nt
def zHJ(a:Act):ResultVar->Sem Value
 |.tmp t=>pure (a.tmps.getD t undef)|.cell t ty=>do loadVar ty (<- asAddr (a.tmps.getD t undef))
theorem zNS{frz:Bool}:∀ (rs:List ResultVar) (j:Nat) {e:Env} {Φ:Nat->Prop} {rv:Nat->Value} {E:Nat->PV} {L:Nat->LN},St w0 U Φ0 nt hv a w e Φ rv E L->zBz E->j+rs.length<=1000->(∀ x∈rs,zYY nt x=true)->(zCU P frz j rs).run o e=some e' ->
  ∃ Φ1 rv1 E1 L1,St w0 U Φ0 nt hv a w e' Φ1 rv1 E1 L1/\zBz E1/\(∀ s,s<zAI+j->rv1 s=rv s)/\∀ (i:Nat) (x:ResultVar),rs[i]? = some x->(zHJ a x).run P w = .ok (rv1 (zAI+j+i)) w
 |[],j,e,Φ,rv,E,L,S,hb,hj,hr,h=>by
  simp only[zCU,PM.run,ba] at h;subst h;exact⟨Φ,rv,E,L,S,hb,fun _ _=>rfl,by simp⟩
 | x :: rs,j,e,Φ,rv,E,L,S,hb,hj,hr,h=>by
  have ho:zAI=60000000:=rfl;have qM:zAa=1000000000:=rfl;simp only[b9] at hj;have hx:=hr x (by simp)
  have fin:∀ {p:PV} {v:Value},Rep w Φ (zBb w rv E) p v []->(zHJ a x).run P w = .ok v w->(zGW frz p fun q=>lay (zAI+j) q (zCU P frz (j+1) rs)).run o e=some e' ->
    ∃ Φ1 rv1 E1 L1,St w0 U Φ0 nt hv a w e' Φ1 rv1 E1 L1/\zBz E1/\(∀ s,s<zAI+j->rv1 s=rv s)/\∀ (i:Nat) (y:ResultVar),(x::rs)[i]? = some y->(zHJ a y).run P w = .ok (rv1 (zAI+j+i)) w:=by
   intro p v hp yI h;obtain⟨e1,Φ1,rv1,E1,L1,h1,S1,y8,h2,h3⟩:=zYU S hb (by omega) hp h;obtain⟨Φ2,rv2,E2,L2,S2,jS,h4,h5⟩:=zNS rs (j+1) S1 y8 (by omega) (fun y hy=>hr y (by simp[hy])) h1;refine⟨Φ2,rv2,E2,L2,S2,jS,fun s hs=>(h4 s (by omega)).trans (h3 s (by omega) (by omega)),fun i y hy=>?_⟩
   cases i with
   |zero=>
    simp at hy;subst hy;rw[bL,h4 _ (by omega),h2];exact yI
   |succ i=>
    rw[show zAI+j+(i+1)=zAI+(j+1)+i by omega];exact h5 i y (by simpa using hy)
  cases x with
  |tmp t=>
   have jv:t<nt:=zCh hx;have yu:t<zAa:=bH jv (bF S.small (by decide));simp only[zCU,PM.run] at h;rw[<- S.env t yu] at h;exact fin (S.conf.view yu) (by simp only[zHJ,bx];rw[S.tmps t jv]) h
  |cell t ty=>
   have jv:t<nt:=zCh hx;have yu:t<zAa:=bH jv (bF S.small (by decide));simp only[zCU] at h;obtain⟨sh,jf,h1⟩:=zBS h;simp only[PM.run] at h1;rw[<- S.env t yu] at h1;have yI:=S.conf.view yu;split at h1
   ·rename_i r pre i c s' uY;rw[uY] at yI;obtain⟨b,u,q,q1,q2,q3,q4⟩:=zLF (P:=P) S jf yI h1;exact fin q4 (by simp only[zHJ,bo];rw[S.tmps t jv,q1];simp[asAddr,q2]) q3
   ·cases h1
end
end Go.Eng
namespace Go.Eng
open Go
def zXm(P:Program)(fn:Func):Bool :=
 match fn.body with
 |none=>true|some c=>zCT P fn.ntmps c&&fn.results.toList.all (zYY fn.ntmps)&&ble fn.ntmps 2000000&&ble fn.results.size 1000
section
variable {P:Program} {H:zBh} {w:World} {orc:zAM} {yo:zC2}
theorem zJ9{α β:Type}{f:α->Sem β}:∀ (l:List α) (vs:List β),l.length=vs.length->(∀ (i:Nat) (x:α) (v:β),l[i]? = some x->vs[i]? = some v->(f x).run P w = .ok v w)->(l.mapM f).run P w = .ok vs w
 |[],[],_,_=>rfl|[],_::_,h,_=>by cases h|_::_,[],h,_=>by cases h|x::l,v::vs,h,hf=>by
  simp only[iL,bo,hf 0 x v rfl rfl,bh,zJ9 l vs (by simpa using h) (fun i y u hy hu=>hf (i+1) y u (by simpa using hy) (by simpa using hu)),bx]
theorem zOe{fn:Func}{a:Act}{vs:List Value}(hl:fn.results.size=vs.length)(h:∀ (i:Nat) (x:ResultVar) (v:Value),fn.results.toList[i]? = some x->vs[i]? = some v->(zHJ a x).run P w = .ok v w) :
  (results fn a.tmps).run P w = .ok (if h:vs.toArray.size=1 then vs.toArray[0] else .tuple vs.toArray) w:=by
 have h1:=zJ9 (P:=P) (w:=w) (f:=zHJ a) fn.results.toList vs (by simpa using hl) h;have h2:(fn.results.mapM (zHJ a)).run P w = .ok vs.toArray w:=by
  rw[il];simp only[Sem.run_map,h1,bh]
 have h3:(fun|.tmp t=>pure (a.tmps.getD t undef)|.cell t ty=>do loadVar ty (<- asAddr (a.tmps.getD t undef)):ResultVar->Sem Value)=zHJ a:=by
  funext x;cases x<;>rfl
 simp only[results,bo];have h4:(fn.results.mapM (fun|.tmp t=>pure (a.tmps.getD t undef)|.cell t ty=>do loadVar ty (<- asAddr (a.tmps.getD t undef)):ResultVar->Sem Value)).run P w = .ok vs.toArray w:=by rw[h3];exact h2
 erw [h4]
 rfl
theorem zJ4{fn:Func}{tmps:Array Value}{R:Ending->World->Prop}:∀ (ds:List Deferred) (w:World),(∀ d∈ds,∃ D,d.target = .collected D/\w.heap[D]? = some (.deferred (some [])))->ds.Pairwise (fun d d'=>∀ D D',d.target = .collected D->d'.target = .collected D'->D≠D') ->
  (∀ w',w'.heap.size=w.heap.size->(∀ b,(∀ d∈ds,d.target ≠ .collected b)->w'.heap[b]? = w.heap[b]?)->(w'.os=w.os/\w'.tape=w.tape/\w'.output=w.output)->LeavesIn (FF none) 0 P fn tmps R [] .returning w')->LeavesInM (FF none) 0 P fn tmps R ds .returning w
 |[],w,_,_,h=>h w rfl (fun _ _=>rfl) ⟨rfl,rfl,rfl⟩
 |d :: ds,w,h1,h2,h=>by
  obtain⟨D,q1,q2⟩:=h1 d (by simp);obtain⟨p1,p2⟩:=cL.1 h2;refine⟨by simp,.inl ⟨D,_,q1,run_takeDeferred q2,zJ4 ds _ (fun d' hd=>?_) p2 fun w' g1 g2 g3=>?_⟩⟩
  ·obtain⟨D',r1,r2⟩:=h1 d' (by simp[hd]);exact⟨D',r1,(World.putObj_heap_other (dA (p1 d' hd D D' q1 r1))).trans r2⟩
  ·refine h w' (g1.trans (by simp)) (fun b hb=>(g2 b fun d' hd=>hb d' (by simp[hd])).trans (World.putObj_heap_other fun e=>hb d (by simp) (e▸q1))) g3
theorem zWl (zFr:P.follows .mixedOrders=true) (jL:zGH P orc) (hnm:zE3 P) (gc:zNB P yo) {f:FuncId} {fn:Func} {body:Code} {n:Nat} {args hid hO:List PV} {v:PV} (hf:P.funcs[f]? = some fn) (y1:fn.body=some body) (hwf:zXm P fn=true) (h:zJt P H orc yo zCe n f fn body args hid=some (v,hO)) :
    Means P f args hid v hO:=by
  have ho:zAI=60000000:=rfl;have hh:zAk=50000000:=rfl;have qM:zAa=1000000000:=rfl;simp only[zXm,y1,bb] at hwf;obtain⟨⟨⟨jR,yi⟩,uz⟩,jP⟩:=hwf;have uz:=br uz;have jP:=br jP;simp only[zJt] at h
  cases hc:(ble args.length fn.ntmps&&ble hid.length 1000&&args.all fun p=>!p.isTup) with
  |false=>rw[hc] at h;cases h
  | true =>
    rw[hc] at h;simp only[cond_true] at h;simp only[bb] at hc;obtain⟨⟨yP,uy⟩,vB⟩:=hc;have yP:=br yP;have uy:=br uy
    have key : ∀ x e1,exec P H orc yo zCe fn.ntmps (H f) n body (zBg args hid) none=some (x,e1,none)->(x = .norm\/x = .ret)->∀ e',(zCU P (H f).frz 0 fn.results.toList).run orc e1=some e' ->
        (bif beq fn.results.size 1&&(e'.get zAI).isTup then none else some (zXa e' fn.results.size,(range hid.length).map fun j=>e'.get (zAk+j)))=some (v,hO)->Means P f args hid v hO:=by
      intro x e1 hx hxn e' wn yt w Φ rv E L vs hE kR C yG yj j3;refine callsIn_wide.1 (callsIn_of_wp_marks (n:=0) hf y1 trivial ?_);have hntm:vs.size+(fn.ntmps-vs.size)=fn.ntmps:=by omega
      have S:St w (fun b=>∃ s,b∈L s) Φ fn.ntmps ⟨rv,[]⟩ {tmps:=vs++Array.replicate (fn.ntmps-vs.size) undef,defers:=[]} w (zBg args hid) Φ rv E L:=by
        refine⟨C,hE,by simp;omega,uz,fun t ht=>?_,fun d ps i hd hp hi=>?_,fun _ _ _=>rfl,rfl⟩
        · simp only[da,Array.getElem?_append];by_cases h1:t<vs.size
          · rw[if_pos h1,yj t (by omega)];rfl
          · rw[if_neg h1,iv,if_pos (by omega),j3 t (by omega) (by omega)];rfl
        · rw[hE d (by omega),zDs (by omega)] at hp;split at hp
          · rename_i wN;have:(args.getD d .bad)∈args:=by
              simp only[List.getD,bk wN,de];exact cC wN
            have:=bj.1 vB _ this;rw[hp] at this;cases this
          · split at hp
            · omega
            · cases hp
      have hw:=zIe (zYJ jL hnm) zFr n body (.inr (zXZ zFr jL hnm gc)) jR (fun _ _=>trivial) rfl (⟨rfl,w,_,Φ,[],Rel.refl,⟨fun _ h=>(by cases h),.nil⟩,Φ,rv,E,L,S,kR⟩:GB w (fun b=>∃ s,b∈L s) Φ fn.ntmps rv _ w _ none) hx;refine wpIn_mono hw fun ex a' w1 ⟨qr,_,wz,Uz,Φz,ds,qu,wJ,Φ1,rv1,E1,L1,Sz,y8⟩=>?_
      have vC:LeavesInM (FF none) 0 P fn a'.tmps (fun e w'=>∃ u Φ' rv' E' L',e = .returned u/\Conf w (fun b=>∃ s,b∈L s) Φ w' Φ' rv' E' L'/\hO.length=hid.length /\
          (∀ j,j<hid.length->E' (zAk+j)=hO.getD j .bad/\rv' (zAk+j)=rv (zAk+j))/\Gave v u rv' E') a'.defers .returning w1:=by
       rw[Sz.dfr];have vz:∀ d∈ds,∀ D,d.target = .collected D->(∀ s,D∉L1 s)/\¬ Φ1 D/\w.heap.size<=D:=by
         intro d hd D hD;obtain⟨D',q1,q0,q2,q3,q4,q5⟩:=wJ.each d hd;rw[q1] at hD;cases hD;refine⟨fun s hs=>?_,fun h=>?_,q0⟩
         · rcases(Sz.conf.own s D hs).2.2 with h|h
           · exact q4 h
           · omega
         · rcases(Sz.conf.frz D h).2 with h|h|h
           · exact q5 h
           · exact q4 h
           · omega
       refine zJ4 ds w1 (fun d hd=>?_) wJ.apart fun w' m1 m2 m3=>?_
       · obtain⟨D,q1,_,q2,q3,q4,_⟩:=wJ.each d hd;exact⟨D,q1,(Sz.conf.kept D q2 q4).trans q3⟩
       have C1:Conf w (fun b=>∃ s,b∈L s) Φ w' Φ1 rv1 E1 L1:=(Sz.conf.rebase qu).moved (by omega) (fun s b hb=>m2 b fun d hd h=>(vz d hd b h).1 s hb) (fun b hb=>m2 b fun d hd h=>(vz d hd b h).2.1 hb) (fun b hb _=>m2 b fun d hd h=>by have:=(vz d hd b h).2.2;omega) m3;have S1:St w (fun b=>∃ s,b∈L s) Φ fn.ntmps ⟨rv,ds⟩ a' w' e1 Φ1 rv1 E1 L1:=Sz.with C1;obtain⟨Φ2,rv2,E2,L2,S2,jS,_,h3⟩:=zNS fn.results.toList 0 S1 y8 (by simpa using jP) (fun y hy=>bj.1 yi y hy) wn
       let us:List Value:=(range fn.results.size).map fun i=>rv2 (zAI+i)
       have yA:=zOe (P:=P) (w:=w') (fn:=fn) (a:=a') (vs:=us) (by simp[us]) (fun i y u hy hu=>by
         have:=h3 i y hy;rw[bL] at this;rw[this];have hi:i<fn.results.size:=by have:=(bf.1 hy).1;simpa using this
         simp only[us,ce,List.getElem?_range hi,bu,ba] at hu;rw[hu])
       refine⟨_,yA,_,Φ2,rv2,E2,L2,rfl,S2.conf,?_⟩;have hv:v=zXa e' fn.results.size/\hO=(range hid.length).map fun j=>e'.get (zAk+j):=by
         revert yt
         cases (beq fn.results.size 1&&(e'.get zAI).isTup) with
         |true=>intro h;cases h|false=>intro h;simp only[cond_false,ba,bw] at h;exact⟨h.1.symm,h.2.symm⟩
       obtain⟨uC,uE⟩:=hv;refine⟨by rw[uE];simp,fun j hj=>⟨?_,S2.hid _ (by omega) (by omega)⟩,?_⟩
       · rw[S2.env _ (by omega),uE];simp[List.getD,hj]
       · by_cases h1:fn.results.size=1
         · have uz:(e'.get zAI).isTup=false:=by
             revert yt
             cases hb:(e'.get zAI).isTup with
             |true=>simp[h1]|false=>intro _;rfl
           have hv3:v=e'.get zAI:=by rw[uC,zXa,if_pos h1]
           have wH:us=[rv2 zAI]:=by simp only[us,h1];rfl
           refine⟨fun _=>⟨by rw[S2.env _ (by omega),hv3],?_⟩,fun ps y6=>?_⟩
           · rw[wH];rfl
           · rw[hv3] at y6;rw[y6] at uz;cases uz
         · have hv3:v = .tup ((range fn.results.size).map fun j=>e'.get (zAI+j)):=by rw[uC,zXa,if_neg h1]
           refine⟨fun h=>absurd hv3 (h _),fun ps y6=>?_⟩;rw[hv3] at y6;simp only[PV.tup.injEq] at y6;subst y6;refine⟨us.toArray,?_,by simp[us],fun j p hj=>?_⟩
           · rw[dif_neg (by simpa[us] using h1)]
           · simp only[ce] at hj
             cases hr:(range fn.results.size)[j]? with
             |none=>rw[hr] at hj;cases hj
             | some k =>
               rw[hr] at hj;simp only[bu,ba] at hj;obtain⟨jX,vd⟩:=bf.1 hr;simp only[dS] at vd;subst vd;simp only[fm] at jX;exact⟨by rw[S2.env _ (by omega)];exact hj,by simp[us,jX]⟩
      subst qr;rcases hxn with rfl|rfl<;>exact vC
    revert h
    cases hx:exec P H orc yo zCe fn.ntmps (H f) n body (zBg args hid) none with
    |none=>intro h;cases h
    | some r =>
      obtain⟨x,e1,lg⟩:=r;intro h
      cases x with
      |ex id=>cases lg<;>cases h
      | norm =>
        cases lg with
        |some g=>cases h
        | none =>
          cases wn:(zCU P (H f).frz 0 fn.results.toList).run orc e1 with
          |none=>simp only[wn] at h;cases h|some e'=>simp only[wn] at h;exact key .norm e1 hx (.inl rfl) e' wn h
      | ret =>
        cases lg with
        |some g=>cases h
        | none =>
          cases wn:(zCU P (H f).frz 0 fn.results.toList).run orc e1 with
          |none=>simp only[wn] at h;cases h|some e'=>simp only[wn] at h;exact key .ret e1 hx (.inr rfl) e' wn h
def zEY(P:Program)(H:zBh):Prop:=∀ (f:FuncId) (fn:Func) (args hid:List PV) (v:PV) (hO:List PV),P.funcs[f]? = some fn->(H f).intr≠0->intrin P fn (H f).intr args hid=some (v,hO)->Callable P f/\Means P f args hid v hO
def Fit(P:Program)(H:zBh):Prop:=∀ (f:FuncId) (fn:Func),P.funcs[f]? = some fn->(H f).intr=0->zXm P fn=true
def zV3(P:Program)(g:FuncId)(first:List PV)(i:Nat)(caps:List PV)(k:Int)(plan:List (List PV)):Prop :=
  ∀ (J:List (List PV)->World->(Nat->Prop)->Prop) (Jx:World->Prop) (Ψ:Nat->Prop),Client P i plan k Ψ J Jx->∀ (w:World) (Φ:Nat->Prop) (rv:Nat->Value) (E:Nat->PV) (L:Nat->LN) (vs:Array Value) (B:Nat->Prop),
   (∀ s,s<zAa->E s=(zBg (first++PV.yld i::caps) []).get s)->(∀ s,zAa<=s->E s = .bad)->Conf w (fun b=>∃ s,b∈L s) Φ w Φ rv E L->vs.size=(first++PV.yld i::caps).length->(∀ j,j<(first++PV.yld i::caps).length->vs[j]? = some (rv j)) ->
   (∀ s,(first++PV.yld i::caps).length<=s->s<zAk->rv s=undef)->J [] w B->(∀ b,B b->∀ s,b∉L s)->(∀ b,Φ b->Ψ b\/¬ B b) ->
   CallsIn (FF none) 0 P g vs w fun en w'=>(∃ v,en = .returned v)/\((k-plan.length≠0/\∃ B',J plan w' B')\/(k-plan.length=0/\Jx w'))
theorem zRc(zFr:P.follows .mixedOrders=true)(jL:zGH P orc)(hnm:zE3 P)(zM7:Fit P H){n:Nat}{g:FuncId}{first caps:List PV}{i:Nat}{k:Int}{plan:List (List PV)}(h:zYK P H orc yo zCe n g first i caps k=some plan):Callable P g/\(first++PV.yld i::caps).length<=zAk/\zV3 P g first i caps k plan:=by
 have hh:zAk=50000000:=rfl;simp only[zYK] at h;split at h
 ·rename_i fn hf;split at h
  ·rename_i body y1;rcases zBt h with⟨hc,h⟩|⟨_,h⟩
   ·simp only[bb] at hc;obtain⟨⟨⟨⟨h1,h2⟩,h3⟩,h4⟩,hint⟩:=hc;have hint:=bc hint;have h1:=br h1;have hwf:=zM7 g fn hf hint;simp only[zXm,y1,bb] at hwf;obtain⟨⟨⟨jR,yi⟩,uz⟩,jP⟩:=hwf;have uz:=br uz;have vB:(first++PV.yld i::caps).all (fun p=>!p.isTup)=true:=by
     rw[List.all_append,cO,bb] ;rw[List.all_append,bb] at h3;exact⟨h3.1,by rw[h3.2];rfl⟩
    have hk:k≠0:=by simpa using h4
    refine⟨⟨fn,hf,by rw[y1];rfl⟩,by omega,?_⟩;have key:∀ {x:X} {e1:Env} {l:Log},exec P H orc yo zCe fn.ntmps (H g) n body (zBg (first++PV.yld i::caps) []) (some ⟨[],k,i⟩)=some (x,e1,some l)->(x = .norm\/x = .ret)->l.xs=plan->zV3 P g first i caps k plan:=fun hx hxn hg J Jx Ψ hC w Φ rv E L vs B hE kR C yG yj j3 hJ hBL hBΦ=>
     zWB zFr jL hnm hC hf y1 jR uz h1 vB h2 hx hxn hg hk hE kR C yG yj j3 hJ hBL hBΦ
    split at h
    ·rename_i e1 l hx;simp only[ba] at h;exact key hx (.inl rfl) h
    ·rename_i e1 l hx;simp only[ba] at h;exact key hx (.inr rfl) h
    ·cases h
   ·cases h
  ·cases h
 ·cases h
theorem zE9[Yo](zFr:P.follows .mixedOrders=true)(hnm:zE3 P)(zM7:Fit P H)(hin:zEY P H)(gc:zNB P Yo.yo):∀ n,zGH P (zCL P H n)
 |0=>by intro f args hid v hO h;cases h
 | n + 1 => by
  have jL:=zE9 zFr hnm zM7 hin gc n;intro f args hid v hO h;have h:zGe P H (zCL P H n) Yo.yo zCe (n+1) f args hid=some (v,hO):=h;simp only[zGe] at h;split at h
  ·rename_i fn hf;split at h
   ·rename_i hi;exact hin f fn args hid v hO hf hi h
   ·rename_i hi;split at h
    ·rename_i body y1;exact⟨⟨fn,hf,by rw[y1];rfl⟩,zWl zFr jL hnm gc hf y1 (zM7 f fn hf (by simpa using hi)) h⟩
    ·cases h
  ·cases h
abbrev yo0:Yo:=⟨fun _ _ _ _ _=>none⟩
noncomputable def zVk(P:Program)(H:zBh)(n:Nat):zC2:=fun g first i caps k=>zYK P H (@zCL P H yo0 n) yo0.yo zCe (n+1) g first i caps k
open Classical in
noncomputable def zYW(P:Program)(H:zBh):zC2:=fun g first i caps k=>if h:∃ xs n0,∀ n,n0<=n->zVk P H n g first i caps k=some xs then some (Classical.choose h) else none
noncomputable abbrev yo1(P:Program)(H:zBh):Yo:=⟨zYW P H⟩
theorem zW9{g:FuncId}{first:List PV}{i:Nat}{caps:List PV}{k:Int}{xs:List (List PV)}{n0:Nat}(h:∀ n,n0<=n->zVk P H n g first i caps k=some xs):zYW P H g first i caps k=some xs:=by
 have h':∃ xs n0,∀ n,n0<=n->zVk P H n g first i caps k=some xs:=⟨xs,n0,h⟩
 simp only[zYW,dif_pos h'];obtain⟨n1,h1⟩:=dU h';have h2:=h1 (max n0 n1) (by omega);rw[h (max n0 n1) (by omega)] at h2;exact h2.symm
theorem zQ7(zFr:P.follows .mixedOrders=true)(hnm:zE3 P)(zM7:Fit P H)(hin:zEY P H):zNB P (zYW P H):=by
 intro g first i caps k plan h
 simp only[zYW] at h;split at h
 ·rename_i h';simp only[ba] at h;subst h;obtain⟨n1,h1⟩:=dU h';exact zRc zFr (@zE9 P H yo0 zFr hnm zM7 hin (fun g first i caps k plan h=>by cases h) n1) hnm zM7 (h1 n1 (by omega))
 ·cases h
end
end Go.Eng
namespace Go.Eng
open Go
def zHS:zAM:=fun _ _ _=>none
def zXS:zC2:=fun _ _ _ _ _=>none
def zHi:All:=fun _=>none
theorem zGc{o:zAM}:∀ {p:PM} {e e1:Env},p.run zHS e=some e1->p.run o e=some e1:=by
 intro p
 induction p with
 |ok=>intro e e1 h;exact h|fail=>intro e e1 h;cases h|view s k ih=>intro e e1 h;exact ih _ h|get s k ih=>intro e e1 h;simp only[PM.run] at h ⊢;split at h<;>first|(cases h;done)|exact ih _ h
 |set s q k ih=>intro e e1 h;exact ih h|cells r pre i c n k ih=>intro e e1 h;simp only[PM.run] at h ⊢;split at h<;>first|(cases h;done)|exact ih _ _ h
 |deep r pre k ih=>intro e e1 h;simp only[PM.run] at h ⊢;split at h<;>first|(cases h;done)|exact ih _ h
 |wcells r pre i c qs k ih=>intro e e1 h;simp only[PM.run] at h ⊢;split at h<;>first|(cases h;done)|exact ih h
 | wnode r pre q k ih =>
  intro e e1 h;simp only[PM.run] at h ⊢;rcases zBt h with⟨_,h⟩|⟨hl,h⟩
  ·cases h
  ·rw[hl];simp only[cond_false];split at h
   ·exact ih h
   ·cases h
 |kill r pre k ih=>intro e e1 h;exact ih h|frz r pre k ih=>intro e e1 h;simp only[PM.run] at h ⊢;split at h<;>first|(cases h;done)|exact ih h
 |killEx r pre k ih=>intro e e1 h;exact ih h|forget r k ih=>intro e e1 h;exact ih h|call f args hid k ih=>intro e e1 h;cases h
theorem zAs{α β:Type}{x y:Option α}{f:α->β}{r:β}(h:x.map f=some r)(g:∀ a,x=some a->y=some a):y.map f=some r:=by
 obtain⟨a,h1,h2⟩:=bm.1 h;rw[g a h1];simp[h2]
theorem zIR{o:zAM}:∀ {p:PM} {e:Env} {r:Env×Tok},p.runT zHS e=some r->p.runT o e=some r:=by
 intro p
 induction p with
 |ok=>intro e e1 h;exact h|fail=>intro e e1 h;cases h|view s k ih=>intro e e1 h;exact zAs h fun a h=>ih _ h
 |get s k ih=>intro e e1 h;simp only[PM.runT] at h ⊢;split at h<;>first|(cases h;done)|exact zAs h fun a h=>ih _ h
 |set s q k ih=>intro e e1 h;exact zAs h fun a h=>ih h
 |cells r pre i c n k ih=>intro e e1 h;simp only[PM.runT] at h ⊢;split at h<;>first|(cases h;done)|exact zAs h fun a h=>ih _ _ h
 |deep r pre k ih=>intro e e1 h;simp only[PM.runT] at h ⊢;split at h<;>first|(cases h;done)|exact zAs h fun a h=>ih _ h
 |wcells r pre i c qs k ih=>intro e e1 h;simp only[PM.runT] at h ⊢;split at h<;>first|(cases h;done)|exact zAs h fun a h=>ih h
 | wnode r pre q k ih =>
  intro e e1 h;simp only[PM.runT] at h ⊢;rcases zBt h with⟨_,h⟩|⟨hl,h⟩
  ·cases h
  ·rw[hl];simp only[cond_false];split at h
   ·exact zAs h fun a h=>ih h
   ·cases h
 |kill r pre k ih=>intro e e1 h;exact zAs h fun a h=>ih h
 |frz r pre k ih=>intro e e1 h;simp only[PM.runT] at h ⊢;split at h<;>first|(cases h;done)|exact zAs h fun a h=>ih h
 |killEx r pre k ih=>intro e e1 h;exact zAs h fun a h=>ih h
 |forget r k ih=>intro e e1 h;exact zAs h fun a h=>ih h
 |call f args hid k ih=>intro e e1 h;cases h
section
variable {P:Program} {H:zBh} {o:zAM} {fz tk nl:Bool} {fzs tks:LN} {ops:Array Oper} {nt:Nat} {hh:FHint} {yo:zC2} {al:All}
theorem zIv{x:Oper}{h0:Nat}{args:List PV}{l:Log}{e:Env}{r:Env×Option Log}(h:zB4 zHS ops x h0 args l e=some r):zB4 o ops x h0 args l e=some r:=by
 simp only[zB4] at h ⊢;split at h
 ·rcases zBt h with⟨hc,h⟩|⟨_,h⟩
  ·rw[hc];simp only[cond_true];refine zAs h fun a h=>?_;rcases zBt h with⟨hk,h⟩|⟨hk,h⟩<;>rw[hk]
   ·exact zGc h
   ·exact zGc h
  ·cases h
 ·exact zAs h fun a h=>zGc h
 ·cases h
theorem zTC{x:Oper}{e:Env}{lg:Option Log}{r:Env×Option Log}(h:zC1 P H zHS fz tk nl ops x e lg=some r):zC1 P H o fz tk nl ops x e lg=some r:=by
 simp only[zC1] at h ⊢;split at h
 ·exact zAs h fun a h=>zGc h
 ·split at h
  ·exact zIv h
  ·exact zAs h fun a h=>zGc h
theorem zNp{x:Oper}{e:Env}{lg:Option Log}{r:Env×Option Log×Tok}(h:zEx P H zHS fz tk nl ops x e lg=some r):zEx P H o fz tk nl ops x e lg=some r:=by
 simp only[zEx] at h ⊢;split at h
 ·exact zAs h fun a h=>zIR h
 ·split at h
  ·exact zAs h fun a h=>zIv h
  ·exact zAs h fun a h=>zIR h
theorem zHP:∀ {l:List Oper} {i:Nat} {e:Env} {lg:Option Log} {r:Env×Option Log},zBl P H zHS fzs tks nl ops l i e lg=some r->zBl P H o fzs tks nl ops l i e lg=some r
 |[],_,_,_,_,h=>h|x::l,i,e,lg,r,h=>by
  simp only[zBl] at h ⊢
  cases hs:zC1 P H zHS (fzs.contains i) (tks.contains i) nl ops x e lg with
  |none=>rw[hs] at h;cases h|some q=>rw[hs] at h;rw[zTC hs];exact zHP h
theorem zJA:∀ {l:List Oper} {i:Nat} {acc:LN} {ts:List Tok} {e:Env} {lg:Option Log} {r:Env×Option Log},zCF P H zHS fzs tks nl ops l i acc ts e lg=some r->zCF P H o fzs tks nl ops l i acc ts e lg=some r
 |[],_,_,_,_,_,_,h=>h
 | x :: l,i,acc,ts,e,lg,r,h=>by
  simp only[zCF] at h ⊢
  cases hs:zEx P H zHS (fzs.contains i) (tks.contains i) nl ops x e lg with
  |none=>rw[hs] at h;cases h|some q=>
   rw[hs] at h;rw[zNp hs];simp only at h ⊢;rcases zBt h with⟨hc,h⟩|⟨_,h⟩
   ·rw[hc];exact zJA h
   ·cases h
theorem zPz:∀ {m:Nat} {c:Code} {e:Env} {lg:Option Log} {r:X×Env×Option Log},exec P H zHS zXS zHi nt hh m c e lg=some r->∀ {m':Nat},m<=m'->exec P H o yo al nt hh m' c e lg=some r
 |0,_,_,_,_,h,_,_=>by cases h
 | m + 1,c,e,lg,r,h,m',hm=>by
  obtain⟨m',rfl⟩:∃ k,m'=k+1:=⟨m'-1,by omega⟩;have ih:∀ {c:Code} {e:Env} {lg:Option Log} {r:X×Env×Option Log},exec P H zHS zXS zHi nt hh m c e lg=some r->exec P H o yo al nt hh m' c e lg=some r:=fun h=>zPz h (by omega)
  cases c with
  | region id ops draw =>
   simp only[exec] at h ⊢;split at h
   ·rename_i e1 lg1 h1;have:(if draw=true then zCF P H o (hh.frzs id) (hh.take id) hh.nils ops ops.toList 0 [] [] e lg else zBl P H o (hh.frzs id) (hh.take id) hh.nils ops ops.toList 0 e lg)=some (e1,lg1):=by
     cases draw with
     |true=>exact zJA h1|false=>exact zHP h1
    rw[this];exact h
   ·cases h
  | seq a b =>
   simp only[exec] at h ⊢
   cases h1:exec P H zHS zXS zHi nt hh m a e lg with
   |none=>rw[h1] at h;cases h|some q=>
    rw[h1] at h;rw[ih h1];obtain⟨x,e1,lg1⟩:=q
    cases x with
    |norm=>exact ih h|ex id=>exact h|ret=>exact h
  | cond c a b =>
   cases c with
   |tmp t=>
    simp only[exec] at h ⊢;revert h
    cases e.get t with
    |bool v=>intro h;cases v<;>exact ih h
    |_=>intro h;cases h
   |const v=>
    simp only[exec] at h ⊢;revert h
    cases v with
    |bool v=>intro h;cases v<;>exact ih h
    |_=>intro h;cases h
   |_=>cases h
  | block id b =>
   simp only[exec] at h ⊢
   cases h1:exec P H zHS zXS zHi nt hh m b e lg with
   |none=>rw[h1] at h;cases h|some q=>
    rw[h1] at h;rw[ih h1];exact h
  | loop b =>
   simp only[exec] at h ⊢
   cases h1:exec P H zHS zXS zHi nt hh m b (e.drop (hh.loopDrop (zA5 b))) lg with
   |none=>rw[h1] at h;cases h|some q=>
    rw[h1] at h;rw[ih h1];obtain⟨x,e1,lg1⟩:=q
    cases x with
    |norm=>exact ih h|ex id=>exact h|ret=>exact h
  |scope b=>exact ih h
  | rangeFunc x ps ca cb =>
   cases x with
   | tmp t =>
    simp only[exec] at h
    cases lg with
    |none=>
     simp only at h;obtain⟨q,h1,_⟩:=bm.1 h;simp only[zHl] at h1;split at h1
     ·cases h1
     ·cases h1
    |some _=>cases h
   |_=>cases h
  |skip=>exact h|exit id=>exact h|ret=>exact h|label l=>exact h|_=>cases h
end
def cl:Code->Code
 |.seq a _=>a|.cond _ a _=>a|.block _ b=>b|.loop b=>b|.scope b=>b|c=>c
def cr:Code->Code
 |.seq _ b=>b|.cond _ _ b=>b|c=>c
def zRZ:Code->Bool
 |.seq .. => true|_=>false
def zPb:Code->Bool
 |.loop _=>true|_=>false
def zTm:Code->Bool
 |.scope _=>true|_=>false
def zTM:Code->ON
 |.block n _=>some n|_=>none
def zSK:Code->ON
 |.cond (.tmp t) _ _=>some t|_=>none
def zRy:Code->ON
 |.exit n=>some n|_=>none
def zYy:Code->Bool
 |.ret=>true|_=>false
def zVW:Code->Bool
 |.skip=>true|_=>false
def zVu:Code->Bool
 |.region .. => true|_=>false
def rid:Code->Nat
 |.region n _ _=>n|_=>0
def zER:Code->Array Oper
 |.region _ o _=>o|_=>#[]
def zMH:Code->Bool
 |.region _ _ d=>d|_=>false
def zD9 (c : Code) (i : Nat) : Oper := (zER c)[i]?.getD { dst := none, op := .move (.const .nilIface), type := 0, pos := "", after := #[], guard := none }
theorem zVc{c:Code}(h:zRZ c=true):c = .seq (cl c) (cr c):=by cases c<;>first|rfl|cases h
theorem zMx{c:Code}(h:zPb c=true):c = .loop (cl c):=by cases c<;>first|rfl|cases h
theorem zRe{c:Code}(h:zTm c=true):c = .scope (cl c):=by cases c<;>first|rfl|cases h
theorem zUK{c:Code}(h:zYy c=true):c = .ret:=by cases c<;>first|rfl|cases h
theorem zR1{c:Code}(h:zVW c=true):c = .skip:=by cases c<;>first|rfl|cases h
theorem zU4{c:Code}(h:zVu c=true):c = .region (rid c) (zER c) (zMH c):=by cases c<;>first|rfl|cases h
theorem zQu{c:Code}{n:Nat}(h:zTM c=some n):c = .block n (cl c):=by cases c<;>first|(cases h;rfl)|cases h
theorem zNT{c:Code}{n:Nat}(h:zRy c=some n):c = .exit n:=by cases c<;>first|(cases h;rfl)|cases h
theorem zQS{c:Code}{t:Nat}(h:zSK c=some t):c = .cond (.tmp t) (cl c) (cr c):=by
 cases c<;>try (cases h;done)
 rename_i x a b;cases x<;>first|(cases h;rfl)|cases h
section
variable [Yo] (P:Program) (H:zBh)
def zBM(f:FuncId)(args hid:List PV)(v:PV)(hO:List PV):Prop:=∃ n0,∀ n,n0<=n->zCL P H n f args hid=some (v,hO)
def W(f:FuncId)(nt:Nat)(c:Code)(e:Env)(lg:Option Log)(K:X->Env->Option Log->Prop):Prop :=
 ∃ n0 x e' lg',(∀ n m,n0<=n->n0<=m->exec P H (zCL P H n) Yo.yo zCe nt (H f) m c e lg=some (x,e',lg'))/\K x e' lg'
def zFG(dr:Option (LN×List Tok))(i:Nat)(o:Oper)(t:Tok):Option (Option (LN×List Tok)) :=
 match dr with
 |none=>some none|some (acc,ts)=>bif o.after.toList.all (fun e=>!Region.binds .any e||blt e.on i)&&zGB (zID acc o) t 0 ts then some (some (acc++[zID acc o],ts++[t])) else none
def zWZ(orc:zAM)(fzs tks:LN)(nl:Bool)(ops:Array Oper)(dr:Option (LN×List Tok))(l:List Oper)(i:Nat)(e:Env)(lg:Option Log):Option (Env×Option Log) :=
 match dr with
 |none=>zBl P H orc fzs tks nl ops l i e lg|some (acc,ts)=>zCF P H orc fzs tks nl ops l i acc ts e lg
def WR(f:FuncId)(id:Nat)(ops:Array Oper)(dr:Option (LN×List Tok))(i:Nat)(e:Env)(lg:Option Log)(K:Env->Option Log->Prop):Prop :=
 ∃ n0 eN lg',(∀ n,n0<=n->∃ e',zWZ P H (zCL P H n) ((H f).frzs id) ((H f).take id) (H f).nils ops dr (ops.toList.drop i) i e lg=some (e',lg')/\(e'.drop ((H f).drop id)).norm=eN)/\K eN lg'
end
section
variable [Yo] {P:Program} {H:zBh} {f:FuncId} {nt:Nat} {e e':Env} {lg:Option Log} {K:X->Env->Option Log->Prop}
def zY0(P:Program)(H:zBh)(f:FuncId)(nt:Nat)(b:Code)(K:X->Env->Option Log->Prop):X->Env->Option Log->Prop
 |.norm,e,lg=>W P H f nt b e lg K|x,e,lg=>K x e lg
theorem zZl{a b:Code}(h:W P H f nt a e lg (zY0 P H f nt b K)):W P H f nt (.seq a b) e lg K:=by
 obtain⟨n0,x,e1,lg1,h1,h2⟩:=h
 cases x with
 |norm=>
  obtain⟨n2,x,e2,lg2,h3,h4⟩:=h2;refine⟨max n0 n2+1,x,e2,lg2,fun n m hn hm=>?_,h4⟩;obtain⟨m,rfl⟩:∃ k,m=k+1:=⟨m-1,by omega⟩;simp only[exec,h1 n m (by omega) (by omega),h3 n m (by omega) (by omega)]
 |ex id=>
  refine⟨n0+1,_,e1,lg1,fun n m hn hm=>?_,h2⟩;obtain⟨m,rfl⟩:∃ k,m=k+1:=⟨m-1,by omega⟩;simp only[exec,h1 n m (by omega) (by omega)]
 |ret=>
  refine⟨n0+1,_,e1,lg1,fun n m hn hm=>?_,h2⟩;obtain⟨m,rfl⟩:∃ k,m=k+1:=⟨m-1,by omega⟩;simp only[exec,h1 n m (by omega) (by omega)]
theorem zUo(m:Nat){c:Code}{x:X}{e1:Env}{lg1:Option Log}(h:exec P H zHS zXS zHi nt (H f) m c e lg=some (x,e1,lg1))(hk:K x e1 lg1):W P H f nt c e lg K :=
 ⟨m,x,e1,lg1,fun _ _ _ hm=>zPz h hm,hk⟩
theorem zRU{c:Code}{K':X->Env->Option Log->Prop}(h:W P H f nt c e lg K)(hk:∀ x e lg,K x e lg->K' x e lg):W P H f nt c e lg K':=by
 obtain⟨n0,x,e1,lg1,h1,h2⟩:=h;exact⟨n0,x,e1,lg1,h1,hk _ _ _ h2⟩
theorem zZs(h:K .ret e lg):W P H f nt .ret e lg K:=zUo 1 rfl h
theorem zYQ(h:K .norm e lg):W P H f nt .skip e lg K:=zUo 1 rfl h
theorem zV2{id:Nat}(h:K (.ex id) (zXJ ((H f).ices id) e) lg):W P H f nt (.exit id) e lg K:=zUo 1 rfl h
theorem zXG{b:Code}(h:W P H f nt b e lg K):W P H f nt (.scope b) e lg K:=by
 obtain⟨n0,x,e1,lg1,h1,h2⟩:=h;refine⟨n0+1,x,e1,lg1,fun n m hn hm=>?_,h2⟩;obtain⟨m,rfl⟩:∃ k,m=k+1:=⟨m-1,by omega⟩;exact h1 n m (by omega) (by omega)
def Blk(id:Nat)(K:X->Env->Option Log->Prop):X->Env->Option Log->Prop
 |.ex id',e,lg=>bif beq id' id then K .norm e lg else K (.ex id') e lg|x,e,lg=>K x e lg
theorem zWK{id:Nat}{b:Code}(h:W P H f nt b e lg (Blk id K)):W P H f nt (.block id b) e lg K:=by
 obtain⟨n0,x,e1,lg1,h1,h2⟩:=h
 cases x with
 | ex id' =>
  by_cases hid:id'=id
  ·subst hid;simp only[Blk,cz,cond_true] at h2;refine⟨n0+1,.norm,e1,lg1,fun n m hn hm=>?_,h2⟩;obtain⟨m,rfl⟩:∃ k,m=k+1:=⟨m-1,by omega⟩;simp only[exec,h1 n m (by omega) (by omega),if_true]
  ·have hb:beq id' id=false:=by
    cases hc:beq id' id with
    |false=>rfl|true=>exact(hid (bc hc)).elim
   simp only[Blk,hb,cond_false] at h2;refine⟨n0+1,.ex id',e1,lg1,fun n m hn hm=>?_,h2⟩;obtain⟨m,rfl⟩:∃ k,m=k+1:=⟨m-1,by omega⟩;simp only[exec,h1 n m (by omega) (by omega),if_neg hid]
 |norm=>
  refine⟨n0+1,_,e1,lg1,fun n m hn hm=>?_,h2⟩;obtain⟨m,rfl⟩:∃ k,m=k+1:=⟨m-1,by omega⟩;simp only[exec,h1 n m (by omega) (by omega)]
 |ret=>
  refine⟨n0+1,_,e1,lg1,fun n m hn hm=>?_,h2⟩;obtain⟨m,rfl⟩:∃ k,m=k+1:=⟨m-1,by omega⟩;simp only[exec,h1 n m (by omega) (by omega)]
theorem zYZ{t:Nat}{a b:Code}{c:Bool}(ht:e.get t = .bool c)(h1:c=true->W P H f nt a e lg K)(h2:c=false->W P H f nt b e lg K):W P H f nt (.cond (.tmp t) a b) e lg K:=by
 cases c with
 |true=>
  obtain⟨n0,x,e1,lg1,h3,h4⟩:=h1 rfl;refine⟨n0+1,_,_,lg1,fun n m hn hm=>?_,h4⟩;obtain⟨m,rfl⟩:∃ k,m=k+1:=⟨m-1,by omega⟩;simp only[exec,ht];exact h3 n m (by omega) (by omega)
 |false=>
  obtain⟨n0,x,e1,lg1,h3,h4⟩:=h2 rfl;refine⟨n0+1,_,_,lg1,fun n m hn hm=>?_,h4⟩;obtain⟨m,rfl⟩:∃ k,m=k+1:=⟨m-1,by omega⟩;simp only[exec,ht];exact h3 n m (by omega) (by omega)
theorem zXV{σ:Type}(Inv:σ->Prop)(I:σ->Env)(μ:σ->Nat){b:Code} (h:∀ s,Inv s->W P H f nt b (I s) lg fun x e lg'=>match x with
   |.norm=>∃ s',Inv s'/\μ s'<μ s/\e.drop ((H f).loopDrop (zA5 b))=I s'/\lg'=lg|x=>K x e lg'):∀ (n:Nat) (s:σ) (e:Env),μ s<=n->Inv s->e.drop ((H f).loopDrop (zA5 b))=I s->W P H f nt (.loop b) e lg K:=by
 intro n
 induction n with
 | zero =>
  intro s e hs hi he;obtain⟨n0,x,e1,lg1,h1,h2⟩:=h s hi
  cases x with
  |norm=>obtain⟨s',_,h3,_⟩:=h2;omega
  |ex id=>
   refine⟨n0+1,_,e1,lg1,fun n m hn hm=>?_,h2⟩;obtain⟨m,rfl⟩:∃ k,m=k+1:=⟨m-1,by omega⟩;simp only[exec,he,h1 n m (by omega) (by omega)]
  |ret=>
   refine⟨n0+1,_,e1,lg1,fun n m hn hm=>?_,h2⟩;obtain⟨m,rfl⟩:∃ k,m=k+1:=⟨m-1,by omega⟩;simp only[exec,he,h1 n m (by omega) (by omega)]
 | succ n ih =>
  intro s e hs hi he;obtain⟨n0,x,e1,lg1,h1,h2⟩:=h s hi
  cases x with
  |norm=>
   obtain⟨s',h3,h4,h7,rfl⟩:=h2;obtain⟨n2,x,e2,lg2,h5,h6⟩:=ih s' e1 (by omega) h3 h7;refine⟨max n0 n2+1,x,e2,lg2,fun n m hn hm=>?_,h6⟩;obtain⟨m,rfl⟩:∃ k,m=k+1:=⟨m-1,by omega⟩;simp only[exec,he,h1 n m (by omega) (by omega),h5 n m (by omega) (by omega)]
  |ex id=>
   refine⟨n0+1,_,e1,lg1,fun n m hn hm=>?_,h2⟩;obtain⟨m,rfl⟩:∃ k,m=k+1:=⟨m-1,by omega⟩;simp only[exec,he,h1 n m (by omega) (by omega)]
  |ret=>
   refine⟨n0+1,_,e1,lg1,fun n m hn hm=>?_,h2⟩;obtain⟨m,rfl⟩:∃ k,m=k+1:=⟨m-1,by omega⟩;simp only[exec,he,h1 n m (by omega) (by omega)]
theorem zAc{c:Code}(h:W P H f nt (cl c) e lg (zY0 P H f nt (cr c) K))(hc:zRZ c=true:=by kernel_rfl):W P H f nt c e lg K:=by rw[zVc hc];exact zZl h
theorem zAm{c:Code}(h:K .ret e lg)(hc:zYy c=true:=by kernel_rfl):W P H f nt c e lg K:=by rw[zUK hc];exact zZs h
theorem zAh{c:Code}(h:K .norm e lg)(hc:zVW c=true:=by kernel_rfl):W P H f nt c e lg K:=by rw[zR1 hc];exact zYQ h
theorem zAG{c:Code}(n:Nat)(h:K (.ex n) (zXJ ((H f).ices n) e) lg)(hc:zRy c=some n:=by kernel_rfl):W P H f nt c e lg K:=by rw[zNT hc];exact zV2 h
theorem zW8{c:Code}(h:W P H f nt (cl c) e lg K)(hc:zTm c=true:=by kernel_rfl):W P H f nt c e lg K:=by rw[zRe hc];exact zXG h
theorem zAg{c:Code}(n:Nat)(h:W P H f nt (cl c) e lg (Blk n K))(hc:zTM c=some n:=by kernel_rfl):W P H f nt c e lg K:=by rw[zQu hc];exact zWK h
def zEP(c:Code)(e:Env):Option Bool :=
 match zSK c with
 |some t=>match e.get t with
  |.bool b=>some b|_=>none
 |none=>none
theorem zEE(b:Bool){c:Code}(h1:b=true->W P H f nt (cl c) e lg K)(h2:b=false->W P H f nt (cr c) e lg K)(hc:zEP c e=some b:=by kernel_rfl):W P H f nt c e lg K:=by
 simp only[zEP] at hc;split at hc
 ·rename_i t ht;rw[zQS ht];split at hc
  ·rename_i b' hb;simp only[ba] at hc;subst hc;exact zYZ hb h1 h2
  ·cases hc
 ·cases hc
theorem zB9{c:Code}(h:W P H f nt (cl c) e lg K)(hc:zEP c e=some true:=by kernel_rfl):W P H f nt c e lg K:=zEE true (fun _=>h) (fun h=>by cases h) hc
theorem zAB{c:Code}(h:W P H f nt (cr c) e lg K)(hc:zEP c e=some false:=by kernel_rfl):W P H f nt c e lg K:=zEE false (fun h=>by cases h) (fun _=>h) hc
theorem zYb{σ:Type}{c:Code}(Inv:σ->Prop)(I:σ->Env)(μ:σ->Nat)(s:σ)(hi:Inv s) (h:∀ s,Inv s->W P H f nt (cl c) (I s) lg fun x e lg'=>match x with
   |.norm=>∃ s',Inv s'/\μ s'<μ s/\e.drop ((H f).loopDrop (zA5 (cl c)))=I s'/\lg'=lg|x=>K x e lg') (hs:e.drop ((H f).loopDrop (zA5 (cl c)))=I s:=by kernel_rfl) (hc:zPb c=true:=by kernel_rfl):W P H f nt c e lg K:=by
 rw[zMx hc];exact zXV Inv I μ h (μ s) s e (bi _) hi hs
def zNn(o:Option Env):Env :=
 match o with
 |some e=>e|none=>[]
structure RS where
 dr:Option (LN×List Tok)
 e:Env
 lg:Option Log
def noY(lg:Option Log)(e:Env)(o:Oper):Bool :=
 match lg with
 |none=>true|some _=>(zCr e o).isNone
def WS(P:Program)(H:zBh)(f:FuncId)(c:Code)(i:Nat)(s:RS)(R:Env->Option Log->Prop):Prop:=WR P H f (rid c) (zER c) s.dr i s.e s.lg R
def zXc(P:Program)(H:zBh)(f:FuncId)(c:Code)(i:Nat)(s:RS):Option RS :=
 match zEx P H zHS (((H f).frzs (rid c)).contains i) (((H f).take (rid c)).contains i) (H f).nils (zER c) (zD9 c i) s.e s.lg with
 |some (e',lg',t)=>(zFG s.dr i (zD9 c i) t).map fun dr=>⟨dr,e',lg'⟩
 |none=>none
def zEJ(P:Program)(H:zBh)(f:FuncId)(c:Code):Nat->Nat->RS->Option RS
 |0,_,s=>some s|m+1,i,s=>match zXc P H f c i s with
  |some s'=>zEJ P H f c m (i+1) s'|none=>none
variable {i:Nat} {c:Code} {s s':RS} {R:Env->Option Log->Prop}
abbrev zYO(P:Program)(H:zBh)(f:FuncId)(c:Code)(i:Nat):PM:=opM P H (((H f).frzs (rid c)).contains i) (((H f).take (rid c)).contains i) (H f).nils (zD9 c i)
def zT7(o:Option RS):RS :=
 match o with
 |some s=>s|none=>⟨none,[],none⟩
theorem zMI{o:Option RS}(h:o.isSome=true):o=some (zT7 o):=by cases o<;>first|rfl|cases h
theorem zAb(h:WS P H f c 0 ⟨bif zMH c then some ([],[]) else none,e,lg⟩ (K .norm))(hc:zVu c=true:=by kernel_rfl):W P H f nt c e lg K:=by
 obtain⟨n0,e1,lg1,h1,h2⟩:=h;rw[zU4 hc];refine⟨n0+1,_,_,lg1,fun n m hn hm=>?_,h2⟩;obtain⟨m,rfl⟩:∃ k,m=k+1:=⟨m-1,by omega⟩;obtain⟨e2,this,h3⟩:=h1 n (by omega)
 cases hd:zMH c with
 |true=>simp only[hd,cond_true,zWZ,dY] at this;simp only[exec,this,if_true,h3]|false=>simp only[hd,cond_false,zWZ,dY] at this;simp only[exec,this,<- h3];rfl
theorem zYH(e1:Env)(h:R e1 s.lg)(he:(s.e.drop ((H f).drop (rid c))).norm=e1:=by kernel_rfl)(hi:ble (zER c).size i=true:=by kernel_rfl):WS P H f c i s R:=by
 have hi:=br hi;refine⟨0,e1,s.lg,fun n _=>⟨s.e,?_,he⟩,h⟩;rw[dx (by simpa using hi)];cases s.dr<;>rfl
theorem zA6(h:R ((s.e.drop ((H f).drop (rid c))).norm) s.lg)(hi:ble (zER c).size i=true:=by kernel_rfl):WS P H f c i s R:=zYH _ h rfl hi
theorem zWA(h:blt i (zER c).size=true):(zER c)[i]? = some (zD9 c i):=by
 have:i<(zER c).size:=by simpa using h
 simp[zD9,this]
theorem zRm(h:blt i (zER c).size=true):(zER c).toList.drop i=zD9 c i::(zER c).toList.drop (i+1):=by
 have h1:(zER c).toList[i]? = some (zD9 c i):=by rw[bO];exact zWA h
 obtain⟨h2,h3⟩:=bf.1 h1;rw[<- h3];exact(bX h2)
theorem zKM{orc:zAM}{fz tk nl:Bool}{ops:Array Oper}{o:Oper}{lg':Option Log}{t:Tok}(h:zEx P H orc fz tk nl ops o e lg=some (e',lg',t)):zC1 P H orc fz tk nl ops o e lg=some (e',lg'):=by
 simp only[zEx] at h;simp only[zC1];split at h
 ·obtain⟨a,h1,h2⟩:=bm.1 h;cases h2;rw[zEq h1];rfl
 ·split at h
  ·obtain⟨a,h1,h2⟩:=bm.1 h;cases h2;rw[h1]
  ·obtain⟨a,h1,h2⟩:=bm.1 h;cases h2;rw[zEq h1];rfl
theorem zLY{t:Tok}{dr':Option (LN×List Tok)}{lg':Option Log}(hi:blt i (zER c).size=true)(hT:∃ n0,∀ n,n0<=n->zEx P H (zCL P H n) (((H f).frzs (rid c)).contains i) (((H f).take (rid c)).contains i) (H f).nils (zER c) (zD9 c i) s.e s.lg=some (e',lg',t))
  (hd:zFG s.dr i (zD9 c i) t=some dr') (h:WS P H f c (i+1) ⟨dr',e',lg'⟩ R):WS P H f c i s R:=by
 obtain⟨n0,hT⟩:=hT;obtain⟨n2,e2,lg2,h1,h2⟩:=h;obtain⟨dr,e,lg⟩:=s;refine⟨max n0 n2,e2,lg2,fun n hn=>?_,h2⟩;have hs:=hT n (by omega);obtain⟨e3,h1,h3⟩:=h1 n (by omega);refine⟨e3,?_,h3⟩;rw[zRm hi]
 cases dr with
 |none=>
  simp only[zFG,ba] at hd;subst hd;simp only[zWZ] at h1 ⊢;simp only[zBl,zKM hs];exact h1
 |some d=>
  obtain⟨acc,ts⟩:=d;simp only[zFG] at hd;rcases zBt hd with⟨hc,hd⟩|⟨_,hd⟩
  ·simp only[ba] at hd;subst hd;simp only[zWZ] at h1 ⊢;simp only[zCF,hs,hc,cond_true];exact h1
  ·cases hd
theorem zR4{orc:zAM}{fz tk nl:Bool}{ops:Array Oper}{o:Oper}{t:Tok}(hy:noY lg e o=true)(h:(zFP P H ops fz tk nl o).runT orc e=some (e',t)):zEx P H orc fz tk nl ops o e lg=some (e',lg,t):=by
 cases lg with
 |none=>simp only[zEx,h];rfl|some l=>
  simp only[noY,dD] at hy;simp only[zEx,hy,h];rfl
theorem zYI{t:Tok}{dr':Option (LN×List Tok)}(hi:blt i (zER c).size=true)(hT:∃ n0,∀ n,n0<=n->(zFP P H (zER c) (((H f).frzs (rid c)).contains i) (((H f).take (rid c)).contains i) (H f).nils (zD9 c i)).runT (zCL P H n) s.e=some (e',t))
  (hd:zFG s.dr i (zD9 c i) t=some dr') (h:WS P H f c (i+1) ⟨dr',e',s.lg⟩ R) (hy:noY s.lg s.e (zD9 c i)=true):WS P H f c i s R:=by
 obtain⟨n0,hT⟩:=hT;exact zLY hi ⟨n0,fun n hn=>zR4 hy (hT n hn)⟩ hd h
theorem zUk(hi:blt i (zER c).size=true)(hs:zXc P H f c i s=some s')(h:WS P H f c (i+1) s' R):WS P H f c i s R:=by
 simp only[zXc] at hs;split at hs
 ·rename_i e1 lg1 t ht;obtain⟨dr,hd,rfl⟩:=bm.1 hs;exact zLY hi ⟨0,fun n _=>zNp ht⟩ hd h
 ·cases hs
theorem zMJ:∀ (m:Nat) {i:Nat} {s s':RS},ble (i+m) (zER c).size=true->zEJ P H f c m i s=some s'->WS P H f c (i+m) s' R->WS P H f c i s R
 |0,i,s,s',_,hs,h=>by simp only[zEJ,ba] at hs;subst hs;exact h
 | m + 1,i,s,s',hi,hs,h=>by
  have LA:=br hi;simp only[zEJ] at hs;split at hs
  ·rename_i s1 h1;refine zUk (by simp;omega) h1 (zMJ m ?_ hs ?_)
   ·rw[show i+1+m=i+(m+1) by omega];exact hi
   ·rw[show i+1+m=i+(m+1) by omega];exact h
  ·cases hs
theorem zAp(m:Nat)(h:WS P H f c (i+m) (zT7 (zEJ P H f c m i s)) R)(hs:(zEJ P H f c m i s).isSome=true:=by kernel_rfl)(hi:ble (i+m) (zER c).size=true:=by kernel_rfl):WS P H f c i s R :=
 zMJ m hi (zMI hs) h
def zLK(c:Code)(i:Nat)(e:Env):Bool :=
 match(zD9 c i).guard with
 |none=>true
 | some (j,want)=>match ((zER c)[j]?).bind (·.dst) with
  |some t=>match e.get t with
   |.bool b=>b==want|_=>false
  |none=>false
theorem zYl{e':Env}(hm:∃ n0,∀ n,n0<=n->(zYO P H f c i).run (zCL P H n) s.e=some e')(h:WS P H f c (i+1) ⟨none,e',s.lg⟩ R)(js:s.dr=none:=by kernel_rfl)(hy:noY s.lg s.e (zD9 c i)=true:=by kernel_rfl)(hg:zLK c i s.e=true:=by kernel_rfl)(hi:blt i (zER c).size=true:=by kernel_rfl):WS P H f c i s R:=by
 obtain⟨n0,hm⟩:=hm;obtain⟨n2,e2,lg2,h1,h2⟩:=h;obtain⟨dr,e,lg⟩:=s;simp only at js hg hm hy;subst js;refine⟨max n0 n2,e2,lg2,fun n hn=>?_,h2⟩;obtain⟨e3,h1,h3⟩:=h1 n (by omega);refine⟨e3,?_,h3⟩;have hr:(zFP P H (zER c) (((H f).frzs (rid c)).contains i) (((H f).take (rid c)).contains i) (H f).nils (zD9 c i)).run (zCL P H n) e=some e':=by
  have hm:=hm n (by omega);revert hg;simp only[zLK]
  cases gV:(zD9 c i).guard with
  |none=>intro _;simp only[zFP,gV];exact hm
  | some w =>
   obtain⟨j,want⟩:=w;intro hg;simp only at hg
   cases hj:((zER c)[j]?).bind (·.dst) with
   |none=>rw[hj] at hg;cases hg|some u=>
    rw[hj] at hg;simp only at hg;cases hv:e.get u<;>rw[hv] at hg<;>try (cases hg;done)
    have hb:=eq_of_beq hg;simp only[zFP,gV,hj,PM.run,hv,hb,if_true];exact hm
 rw[zRm hi];simp only[zWZ] at h1 ⊢;have hs:zC1 P H (zCL P H n) (((H f).frzs (rid c)).contains i) (((H f).take (rid c)).contains i) (H f).nils (zER c) (zD9 c i) e lg=some (e',lg):=by
  cases lg with
  |none=>simp only[zC1,hr,bu]|some l=>
   simp only[noY,dD] at hy;simp only[zC1,hy,hr,bu]
 simp only[zBl,hs];exact h1
end
end Go.Eng
namespace Go.Eng
open Go
section
variable {P:Program} {H:zBh} {f:FuncId} {e e':Env} {i:Nat} {c:Code} {fz tk nl:Bool} {orc:zAM}
def zY3(e:Env):Operand->PV
 |.tmp t=>view t (e.get t)|.const v=>zEQ v|.func f=>.func f [] []|.global _=>.bad
theorem zQ8{α β:Type}{f:β->α->β}{b:β}{l:List α}{i:Nat}(h:i<l.length):(l.take (i+1)).foldl f b=f ((l.take i).foldl f b) l[i]:=by
 rw[fo,bk h];simp only[Option.toList,cH,List.foldl]
def two(o:Oper)(r:PV):PM :=
 match o.op with
 |.binOp _ _ x y _=>opd x fun _=>opd y fun _=>put o.dst r
 |.indexAddr _ x y=>opd x fun _=>opd y fun _=>put o.dst r
 |.index _ x y=>opd x fun _=>opd y fun _=>put o.dst r
 |_=>.fail
theorem zYc{a:Int}(h : -9223372036854775808<=a/\a<9223372036854775808):IntKind.i64.wrap a=a:=by
 rw[IntKind.wrap_i64];omega
end
end Go.Eng
namespace Go.Eng
open Go
section
variable [Yo] {P:Program} {H:zBh} {f:FuncId} {e e':Env} {i:Nat} {c:Code} {s:RS} {R:Env->Option Log->Prop} {fz tk nl:Bool} {orc:zAM}
def zZC(e:Env)(p q:PV)(l:List (Nat×zA4)):Prop:=∀ (orc:zAM) (k:PV->List (Nat×zA4)->PM),(zQW p k).run orc e=(k q l).run orc e
inductive SeenAll (e:Env):LN->List PV->List Arg->Prop where
 |nil {ms}:SeenAll e ms [] []
 |ref {ms ps as p}:beq (ms.headD 0) 1=true->SeenAll e ms.tail ps as->SeenAll e ms (p::ps) ({p:=p,byref:=true}::as)
 |one {ms ps as p q l}:beq (ms.headD 0) 1=false->zZC e p q l->SeenAll e ms.tail ps as->SeenAll e ms (p::ps) ({p:=q,shared:=l}::as)
theorem zLp{o o':zAM}(ho:∀ g a h r,o g a h=some r->o' g a h=some r):∀ {p:PM} {e e1:Env},p.run o e=some e1->p.run o' e=some e1:=by
 intro p
 induction p with
 |ok=>intro e e1 h;exact h|fail=>intro e e1 h;cases h|view s k ih=>intro e e1 h;exact ih _ h|get s k ih=>intro e e1 h;simp only[PM.run] at h ⊢;split at h<;>first|(cases h;done)|exact ih _ h
 |set s q k ih=>intro e e1 h;exact ih h|cells r pre i c n k ih=>intro e e1 h;simp only[PM.run] at h ⊢;split at h<;>first|(cases h;done)|exact ih _ _ h
 |deep r pre k ih=>intro e e1 h;simp only[PM.run] at h ⊢;split at h<;>first|(cases h;done)|exact ih _ h
 |wcells r pre i c qs k ih=>intro e e1 h;simp only[PM.run] at h ⊢;split at h<;>first|(cases h;done)|exact ih h
 | wnode r pre q k ih =>
  intro e e1 h;simp only[PM.run] at h ⊢;rcases zBt h with⟨_,h⟩|⟨hl,h⟩
  ·cases h
  ·rw[hl];simp only[cond_false];split at h
   ·exact ih h
   ·cases h
 |kill r pre k ih=>intro e e1 h;exact ih h|frz r pre k ih=>intro e e1 h;simp only[PM.run] at h ⊢;split at h<;>first|(cases h;done)|exact ih h
 |killEx r pre k ih=>intro e e1 h;exact ih h|forget r k ih=>intro e e1 h;exact ih h|call f args hid k ih=>
  intro e e1 h;simp only[PM.run] at h ⊢;split at h
  ·rename_i v hO hq;rw[ho _ _ _ _ hq];exact ih _ _ h
  ·cases h
end
end Go.Eng
namespace Go.Eng
open Go
section
variable [Yo] {P:Program} {H:zBh} {f:FuncId} {e e':Env} {i:Nat} {c:Code} {s:RS} {R:Env->Option Log->Prop} {fz tk nl:Bool} {orc:zAM}
def zSw (c:Code) (i:Nat) (s:RS) (e':Env) (t:Tok):Option RS :=
 bif noY s.lg s.e (zD9 c i) then match(match(zD9 c i).guard with
  |none=>some t
  | some (j,want)=>match ((zER c)[j]?).bind (·.dst) with
   |some u=>match s.e.get u with
    |.bool b=>bif b==want then some (Tok.join {rd:=[u]} t) else none|_=>none
   |none=>none) with
 |some t=>(zFG s.dr i (zD9 c i) t).map fun dr=>⟨dr,e',s.lg⟩
 |none=>none else none
theorem zZh{m:Option (Env×Tok)}(hm:∃ n0,∀ n,n0<=n->(zYO P H f c i).runT (zCL P H n) s.e=m)(h:WS P H f c (i+1) (zT7 (m.bind fun r=>zSw c i s r.1 r.2)) R)(hs:(m.bind fun r=>zSw c i s r.1 r.2).isSome=true:=by kernel_rfl)(hi:blt i (zER c).size=true:=by kernel_rfl):WS P H f c i s R:=by
 cases m with
 |none=>cases hs|some r=>
 obtain⟨e',t⟩:=r;have yz:=zMI hs;revert h;generalize zT7 ((some (e',t)).bind fun r=>zSw c i s r.1 r.2)=s' at yz;intro h;obtain⟨n0,hm⟩:=hm;simp only[bd,zSw] at yz;rcases zBt yz with⟨hy,yz⟩|⟨_,yz⟩
 case inr=>cases yz
 split at yz
 ·rename_i t' ht;obtain⟨dr,hd,rfl⟩:=bm.1 yz;refine zYI hi ⟨n0,fun n hn=>?_⟩ hd h hy;revert ht
  cases hg:(zD9 c i).guard with
  |none=>intro ht;simp only[ba] at ht;subst ht;simp only[zFP,hg];exact hm n hn
  | some w =>
   obtain⟨j,want⟩:=w;intro ht;simp only at ht
   cases hj:((zER c)[j]?).bind (·.dst) with
   |none=>rw[hj] at ht;cases ht|some u=>
    rw[hj] at ht;simp only at ht;cases hv:s.e.get u<;>rw[hv] at ht<;>try (cases ht;done)
    rcases zBt ht with⟨hb,ht⟩|⟨_,ht⟩
    ·have hb:=eq_of_beq hb;simp only[ba] at ht;subst ht;simp only[zFP,hg,hj,PM.runT,hv,hb,if_true];rw[hm n hn];rfl
    ·cases ht
 ·cases yz
theorem zOU{x:Operand}{p:PV}{k:PV->PM}(hx:zY3 e x=p)(hp:p ≠ .bad):(opd x k).run orc e=(k p).run orc e:=by
 subst hx
 cases x with
 |tmp t=>rfl|const v=>rfl|func g=>rfl|global g=>exact(hp rfl).elim
theorem zNZ{v:PV}(hh:v.heavy=false):v.cells.all (fun q=>!q.heavy)=true:=by
 cases v<;>simp only[PV.cells,cO,List.all_nil,ig,hh,f8];rename_i cs;simp only[PV.heavy] at hh;refine bj.2 fun q hq=>?_;obtain⟨i,hi⟩:=cj hq;rw[zEA hh hi];rfl
theorem zMO:∀ {ps:List PV},ps.all (fun q=>q.ways.isEmpty)=true->zBE ps=[]
 |[],_=>rfl|p::ps,h=>by
  simp only[cO,bb,d6] at h;simp only[zBE,h.1,cY,zMO h.2]
end
end Go.Eng
namespace Go.Eng
open Go
section
variable [Yo] {P:Program} {H:zBh} {f:FuncId} {e e':Env} {i:Nat} {c:Code} {s:RS} {R:Env->Option Log->Prop} {fz tk nl:Bool} {orc:zAM}
theorem zId{x:Option Env}(h:x.isSome=true):x=some (zNn x):=by cases x<;>first|rfl|cases h
theorem zUl{α:Type}{xs ys:List α}{y:α}{j:Nat}(h:j+(ys.length+1)<=xs.length):(xs.set j y).take (j+1)++ys++(xs.set j y).drop (j+1+ys.length)=xs.take j++(y::ys)++xs.drop (j+(ys.length+1)):=by
 obtain ⟨A, x, B, rfl, rfl⟩ : ∃ A x B, xs = A ++ x :: B /\ A.length = j := ⟨xs.take j, xs[j]'(by omega), xs.drop (j + 1), by rw [<- bX (by omega), cm], by simp; omega⟩;have h1:(A++x::B).set A.length y=A++y::B:=by simp
 have h2:(A++y::B).take (A.length+1)=A++[y]:=by rw[ip,bz (by omega)];simp
 have h3:(A++y::B).drop (A.length+1+ys.length)=B.drop ys.length:=by
  rw[fM,dx (by omega)];simp[show A.length+1+ys.length-A.length=ys.length+1 by omega]
 have h4:(A++x::B).drop (A.length+(ys.length+1))=B.drop ys.length:=by
  rw[fM,dx (by omega)];simp
 have h5:(A++x::B).take A.length=A:=by simp
 rw[h1,h2,h3,h4,h5];simp
end
end Go.Eng
namespace Go.Eng
open Go
def Srt(e:Env):Prop:=e.Pairwise (fun a b=>a.1<b.1)/\∀ x∈e,x.2 ≠ .bad
theorem zNv:∀ {e:Env} {k:Nat},(∀ x∈e,k<x.1)->e.get k = .bad
 |[],_,_=>rfl
 | (k',v)::e,k,h=>by
  have h1:k<k':=h (k',v) (by simp);have:beq k' k=false:=by
   cases hb:beq k' k with
   |false=>rfl|true=>have:=bc hb;omega
  simp only[Env.get,this,cond_false];exact zNv fun x hx=>h x (by simp[hx])
theorem Srt.eq:∀ {e e':Env},Srt e->Srt e'->(∀ s,e.get s=e'.get s)->e=e'
 |[],[],_,_,_=>rfl|[],(k,v)::e',_,h2,h=>by
  have:=h k;simp only[Env.get,cz,cond_true] at this;exact(h2.2 (k,v) (by simp) this.symm).elim
 |(k,v)::e,[],h1,_,h=>by
  have:=h k;simp only[Env.get,cz,cond_true] at this;exact(h1.2 (k,v) (by simp) this).elim
 | (k, v)::e,(k',v')::e',h1,h2,h=>by
  obtain⟨p1,q1⟩:=h1;obtain⟨p2,q2⟩:=h2;obtain⟨a1,b1⟩:=cL.1 p1;obtain⟨a2,b2⟩:=cL.1 p2;have hk:k=k':=by
   rcases Nat.lt_trichotomy k k' with yL|uY|yL
   ·have:=h k;rw[zNv (e:=(k',v')::e') (k:=k) (fun x hx=>by
     rcases bv.1 hx with rfl|hx
     ·exact yL
     ·exact Nat.lt_trans yL (a2 x hx))] at this
    simp only[Env.get,cz,cond_true] at this;exact(q1 (k,v) (by simp) this).elim
   ·exact uY
   ·have:=h k';rw[zNv (e:=(k,v)::e) (k:=k') (fun x hx=>by
     rcases bv.1 hx with rfl|hx
     ·exact yL
     ·exact Nat.lt_trans yL (a1 x hx))] at this
    simp only[Env.get,cz,cond_true] at this;exact(q2 (k',v') (by simp) this.symm).elim
  subst hk;have hv:=h k;simp only[Env.get,cz,cond_true] at hv;subst hv;congr 1;refine Srt.eq ⟨b1,fun x hx=>q1 x (by simp[hx])⟩ ⟨b2,fun x hx=>q2 x (by simp[hx])⟩ fun s=>?_;have hs:=h s;simp only[Env.get] at hs
  cases hb:beq k s with
  |false=>rw[hb] at hs;exact hs|true=>
   have:=bc hb;subst this;rw[zNv a1,zNv a2]
theorem zLO:∀ {e:Env} {k:Nat} {v:PV} {x:Nat×PV},x∈e.set k v->x=(k,v)\/x∈e
 |[],k,v,x,h=>by simp only[Env.set,bl] at h;exact .inl h
 | (k',v')::e,k,v,x,h=>by
  simp only[Env.set] at h
  cases hb:beq k' k with
  |true=>rw[hb] at h;simp only[cond_true,bv] at h;rcases h with h|h<;>simp[h]
  | false =>
   rw[hb] at h;simp only[cond_false] at h
   cases hl:ble k k' with
   |true=>rw[hl] at h;simp only[cond_true,bv] at h;rcases h with h|h|h<;>simp[h]
   |false=>
    rw[hl] at h;simp only[cond_false,bv] at h;rcases h with h|h
    ·simp[h]
    ·rcases zLO h with h|h<;>simp[h]
theorem Srt.set:∀ {e:Env} {k:Nat} {v:PV},Srt e->v ≠ .bad->Srt (e.set k v)
 |[],k,v,_,hv=>⟨by simp[Env.set],by simp[Env.set,hv]⟩
 | (k',v')::e,k,v,h,hv=>by
  obtain⟨p,q⟩:=h;obtain⟨a,b⟩:=cL.1 p;refine⟨?_,fun x hx=>by
   rcases zLO hx with rfl|hx
   ·exact hv
   ·exact q x hx⟩
  simp only[Env.set]
  cases hb:beq k' k with
  |true=>
   have:=bc hb;subst this;exact cL.2 ⟨a,b⟩
  | false =>
   have hI:k'≠k:=by intro h;subst h;rw[cz] at hb;cases hb
   cases hl:ble k k' with
   | true =>
    have:=br hl;exact cL.2 ⟨fun x hx=>by
     rcases bv.1 hx with rfl|hx
     ·show k<k';omega
     ·have:k'<x.1:=a x hx;show k<x.1;omega,p⟩
   | false =>
    have yL:k'<k:=by
     have:¬ k<=k':=fun hh=>by rw[<- fG] at hh;rw[hh] at hl;cases hl
     omega
    refine cL.2 ⟨fun x hx=>?_,(Srt.set ⟨b,fun x hx=>q x (by simp[hx])⟩ hv).1⟩;rcases zLO hx with rfl|hx
    ·exact yL
    ·exact a x hx
theorem Srt.norm:∀ (e:Env),Srt e.norm
 |[]=>⟨by simp[Env.norm],by simp[Env.norm]⟩|(k,v)::e=>by
  have ih:=Srt.norm e;simp only[Env.norm,Env.put];split
  ·exact⟨ih.1.filter _,fun x hx=>ih.2 x (bP.1 hx).1⟩
  ·rename_i hv;exact ih.set (fun h=>hv h)
theorem zWx{e e':Env}(h:∀ s,e.get s=e'.get s):e.norm=e'.norm:=(Srt.norm e).eq (Srt.norm e') fun s=>by rw[zI8,zI8];exact h s
section
variable [Yo] {P:Program} {H:zBh} {f:FuncId} {i:Nat} {c:Code} {R:Env->Option Log->Prop}
theorem zGh{o:zAM}{fzs tks:LN}{nl:Bool}{ops:Array Oper}:∀ {l:List Oper} {i:Nat} {e g:Env} {r:Env×Option Log},g.get=e.get->zBl P H o fzs tks nl ops l i e none=some r->∃ g1,zBl P H o fzs tks nl ops l i g none=some (g1,r.2)/\g1.get=r.1.get
 |[],_,e,g,r,he,h=>by simp only[zBl,ba] at h;subst h;exact⟨g,rfl,he⟩
 | x :: l,i,e,g,r,he,h=>by
  simp only[zBl,zC1] at h ⊢
  cases hs:(zFP P H ops (fzs.contains i) (tks.contains i) nl x).run o e with
  |none=>rw[hs] at h;cases h|some e1=>
   rw[hs] at h;obtain⟨g1,h1,h2⟩:=zF4 he hs;rw[h1];exact zGh h2 h
theorem zV8{e e':Env}(h:WS P H f c i ⟨none,e',none⟩ R)(he:∀ s,e.get s=e'.get s):WS P H f c i ⟨none,e,none⟩ R:=by
 obtain⟨n0,eN,lg',h1,h2⟩:=h;refine⟨n0,eN,lg',fun n hn=>?_,h2⟩;obtain⟨e1,h3,h4⟩:=h1 n hn;simp only[zWZ] at h3;obtain⟨g1,h5,h6⟩:=zGh (funext he) h3;refine⟨g1,h5,?_⟩;rw[<- h4];refine zWx fun s=>?_;rw[Env.get_drop,Env.get_drop,h6]
def zV5(P:Program)(e:Env)(o:Oper):Option (Nat×PV×PV) :=
 match o.op with
 | .call c=>match c.callee,c.args.toList,c.argTypes.toList with
  |.builtin .copy,[x,y],t::_=>match(zB5 P t).bind (szT P) with
   |some s=>some (s,zY3 e x,zY3 e y)|none=>none
  |_,_,_=>none
 |_=>none
def zYr(s:Nat)(x y:PV):Prop:=y.plain=true/\y.cells.length=s/\y.heavy=false/\y.cells.all (fun q=>q.ways.isEmpty)=true/\y.cells.length<=x.cells.length/\zAF x 0 y.cells=y
end
end Go.Eng
namespace Go.Eng
open Go
def Le(o o':zAM):Prop:=∀ g a h r,o g a h=some r->o' g a h=some r
theorem zSs{o0 o:zAM}(ho:Le o0 o):∀ {p:PM} {e:Env} {r:Env×Tok},p.runT o0 e=some r->p.runT o e=some r:=by
 intro p
 induction p with
 |ok=>intro e e1 h;exact h|fail=>intro e e1 h;cases h|view s k ih=>intro e e1 h;exact zAs h fun a h=>ih _ h
 |get s k ih=>intro e e1 h;simp only[PM.runT] at h ⊢;split at h<;>first|(cases h;done)|exact zAs h fun a h=>ih _ h
 |set s q k ih=>intro e e1 h;exact zAs h fun a h=>ih h
 |cells r pre i c n k ih=>intro e e1 h;simp only[PM.runT] at h ⊢;split at h<;>first|(cases h;done)|exact zAs h fun a h=>ih _ _ h
 |deep r pre k ih=>intro e e1 h;simp only[PM.runT] at h ⊢;split at h<;>first|(cases h;done)|exact zAs h fun a h=>ih _ h
 |wcells r pre i c qs k ih=>intro e e1 h;simp only[PM.runT] at h ⊢;split at h<;>first|(cases h;done)|exact zAs h fun a h=>ih h
 | wnode r pre q k ih =>
  intro e e1 h;simp only[PM.runT] at h ⊢;rcases zBt h with⟨_,h⟩|⟨hl,h⟩
  ·cases h
  ·rw[hl];simp only[cond_false];split at h
   ·exact zAs h fun a h=>ih h
   ·cases h
 |kill r pre k ih=>intro e e1 h;exact zAs h fun a h=>ih h
 |frz r pre k ih=>intro e e1 h;simp only[PM.runT] at h ⊢;split at h<;>first|(cases h;done)|exact zAs h fun a h=>ih h
 |killEx r pre k ih=>intro e e1 h;exact zAs h fun a h=>ih h
 |forget r k ih=>intro e e1 h;exact zAs h fun a h=>ih h
 |call f args hid k ih=>
  intro e e1 h;simp only[PM.runT] at h ⊢;split at h
  ·rename_i v hO hq;rw[ho _ _ _ _ hq];exact ih _ _ h
  ·cases h
section
variable [Yo] {P:Program} {H:zBh} {o0 o:zAM} (ho:Le o0 o) {fz tk nl:Bool} {fzs tks:LN} {ops:Array Oper} {nt:Nat} {hh:FHint} {yo0 yo:zC2} {al:All}
include ho in
theorem zKi{x:Oper}{h0:Nat}{args:List PV}{l:Log}{e:Env}{r:Env×Option Log}(h:zB4 o0 ops x h0 args l e=some r):zB4 o ops x h0 args l e=some r:=by
 simp only[zB4] at h ⊢;split at h
 ·rcases zBt h with⟨hc,h⟩|⟨_,h⟩
  ·rw[hc];simp only[cond_true];refine zAs h fun a h=>?_;rcases zBt h with⟨hk,h⟩|⟨hk,h⟩<;>rw[hk]
   ·exact zLp ho h
   ·exact zLp ho h
  ·cases h
 ·exact zAs h fun a h=>zLp ho h
 ·cases h
include ho in
theorem zUU{x:Oper}{e:Env}{lg:Option Log}{r:Env×Option Log}(h:zC1 P H o0 fz tk nl ops x e lg=some r):zC1 P H o fz tk nl ops x e lg=some r:=by
 simp only[zC1] at h ⊢;split at h
 ·exact zAs h fun a h=>zLp ho h
 ·split at h
  ·exact zKi ho h
  ·exact zAs h fun a h=>zLp ho h
include ho in
theorem zUH{x:Oper}{e:Env}{lg:Option Log}{r:Env×Option Log×Tok}(h:zEx P H o0 fz tk nl ops x e lg=some r):zEx P H o fz tk nl ops x e lg=some r:=by
 simp only[zEx] at h ⊢;split at h
 ·exact zAs h fun a h=>zSs ho h
 ·split at h
  ·exact zAs h fun a h=>zKi ho h
  ·exact zAs h fun a h=>zSs ho h
include ho in
theorem zIB:∀ {l:List Oper} {i:Nat} {e:Env} {lg:Option Log} {r:Env×Option Log},zBl P H o0 fzs tks nl ops l i e lg=some r->zBl P H o fzs tks nl ops l i e lg=some r
 |[],_,_,_,_,h=>h|x::l,i,e,lg,r,h=>by
  simp only[zBl] at h ⊢
  cases hs:zC1 P H o0 (fzs.contains i) (tks.contains i) nl ops x e lg with
  |none=>rw[hs] at h;cases h|some q=>rw[hs] at h;rw[zUU ho hs];exact zIB h
include ho in
theorem zK2:∀ {l:List Oper} {i:Nat} {acc:LN} {ts:List Tok} {e:Env} {lg:Option Log} {r:Env×Option Log},zCF P H o0 fzs tks nl ops l i acc ts e lg=some r->zCF P H o fzs tks nl ops l i acc ts e lg=some r
 |[],_,_,_,_,_,_,h=>h
 | x :: l,i,acc,ts,e,lg,r,h=>by
  simp only[zCF] at h ⊢
  cases hs:zEx P H o0 (fzs.contains i) (tks.contains i) nl ops x e lg with
  |none=>rw[hs] at h;cases h|some q=>
   rw[hs] at h;rw[zUH ho hs];simp only at h ⊢;rcases zBt h with⟨hc,h⟩|⟨_,h⟩
   ·rw[hc];exact zK2 h
   ·cases h
include ho in
theorem zRT:∀ {m:Nat} {c:Code} {e:Env} {lg:Option Log} {r:X×Env×Option Log},exec P H o0 yo0 zHi nt hh m c e lg=some r->∀ {m':Nat},m<=m'->exec P H o yo al nt hh m' c e lg=some r
 |0,_,_,_,_,h,_,_=>by cases h
 | m + 1,c,e,lg,r,h,m',hm=>by
  obtain⟨m',rfl⟩:∃ k,m'=k+1:=⟨m'-1,by omega⟩;have ih:∀ {c:Code} {e:Env} {lg:Option Log} {r:X×Env×Option Log},exec P H o0 yo0 zHi nt hh m c e lg=some r->exec P H o yo al nt hh m' c e lg=some r:=fun h=>zRT h (by omega)
  cases c with
  | region id ops draw =>
   simp only[exec] at h ⊢;split at h
   ·rename_i e1 lg1 h1;have:(if draw=true then zCF P H o (hh.frzs id) (hh.take id) hh.nils ops ops.toList 0 [] [] e lg else zBl P H o (hh.frzs id) (hh.take id) hh.nils ops ops.toList 0 e lg)=some (e1,lg1):=by
     cases draw with
     |true=>exact zK2 ho h1|false=>exact zIB ho h1
    rw[this];exact h
   ·cases h
  | seq a b =>
   simp only[exec] at h ⊢
   cases h1:exec P H o0 yo0 zHi nt hh m a e lg with
   |none=>rw[h1] at h;cases h|some q=>
    rw[h1] at h;rw[ih h1];obtain⟨x,e1,lg1⟩:=q
    cases x with
    |norm=>exact ih h|ex id=>exact h|ret=>exact h
  | cond c a b =>
   cases c with
   |tmp t=>
    simp only[exec] at h ⊢;revert h
    cases e.get t with
    |bool v=>intro h;cases v<;>exact ih h
    |_=>intro h;cases h
   |const v=>
    simp only[exec] at h ⊢;revert h
    cases v with
    |bool v=>intro h;cases v<;>exact ih h
    |_=>intro h;cases h
   |_=>cases h
  | block id b =>
   simp only[exec] at h ⊢
   cases h1:exec P H o0 yo0 zHi nt hh m b e lg with
   |none=>rw[h1] at h;cases h|some q=>
    rw[h1] at h;rw[ih h1];exact h
  | loop b =>
   simp only[exec] at h ⊢
   cases h1:exec P H o0 yo0 zHi nt hh m b (e.drop (hh.loopDrop (zA5 b))) lg with
   |none=>rw[h1] at h;cases h|some q=>
    rw[h1] at h;rw[ih h1];obtain⟨x,e1,lg1⟩:=q
    cases x with
    |norm=>exact ih h|ex id=>exact h|ret=>exact h
  |scope b=>exact ih h
  | rangeFunc x ps ca cb =>
   cases x with
   | tmp t =>
    simp only[exec] at h
    cases lg with
    |none=>
     simp only at h;obtain⟨q,h1,_⟩:=bm.1 h;simp only[zHl] at h1;split at h1
     ·cases h1
     ·cases h1
    |some _=>cases h
   |_=>cases h
  |skip=>exact h|exit id=>exact h|ret=>exact h|label l=>exact h|_=>cases h
end
section
variable [Yo] {P:Program} {H:zBh}
theorem zVI{o0 o:zAM}(ho:Le o0 o){yo0 yo:zC2}{al:All}{n n':Nat}(hn:n<=n'){f:FuncId}{args hid:List PV}{r:PV×List PV}(h:zGe P H o0 yo0 zHi n f args hid=some r):zGe P H o yo al n' f args hid=some r:=by
 simp only[zGe] at h ⊢
 cases hf:P.funcs[f]? with
 |none=>rw[hf] at h;cases h
 | some fn =>
  rw[hf] at h;simp only at h ⊢;by_cases hi:(H f).intr≠0
  ·rw[if_pos hi] at h ⊢;exact h
  ·rw [if_neg hi] at h ⊢
   cases hb:fn.body with
   |none=>rw[hb] at h;cases h
   | some body =>
    rw[hb] at h;simp only[zJt] at h ⊢;rcases zBt h with⟨hc,h⟩|⟨_,h⟩
    ·rw[hc];simp only[cond_true]
     cases hx:exec P H o0 yo0 zHi fn.ntmps (H f) n body (zBg args hid) none with
     |none=>rw[hx] at h;cases h
     | some q =>
      rw[hx] at h;rw[zRT ho hx hn];obtain⟨x,e1,lg⟩:=q;cases x<;>cases lg<;>simp only at h ⊢ <;> try (cases h;done)
      all_goals
       cases hr:(zCU P (H f).frz 0 fn.results.toList).run o0 e1 with
       |none=>rw[hr] at h;cases h|some e2=>rw[hr] at h;rw[zLp ho hr];exact h
    ·cases h
abbrev zX8(P:Program)(H:zBh)(n:Nat):zAM:=(zSa P H zHi n).1
theorem zPJ:∀ (n n':Nat),n<=n'->Le (zX8 P H n) (zCL P H n')
 |0,_,_=>fun g a h r hh=>by cases hh
 |n+1,n',hn=>by
  obtain⟨k,rfl⟩:∃ k,n'=k+1:=⟨n'-1,by omega⟩;intro g a h r hh;exact zVI (zPJ n k (by omega)) (by omega) hh
theorem zBM.closed{f:FuncId}{args hid hO:List PV}{v:PV}(n:Nat)(h:zX8 P H n f args hid=some (v,hO):=by kernel_rfl):zBM P H f args hid v hO:=⟨n,fun n' hn=>zPJ n n' hn _ _ _ _ h⟩
end
end Go.Eng
namespace Go.Eng
open Go
section
variable {P:Program} {H:zBh}
theorem zSM(zFr:P.follows .mixedOrders=true)(hnm:zE3 P)(zM7:Fit P H)(hin:zEY P H){f:FuncId}{args:List PV}(hg:@zBM (yo1 P H) P H f args [] (.bool true) []){w:World}{Φ:Nat->Prop}{vs:Array Value}(hΦ:∀ b,Φ b->b<w.heap.size)(hr:zBa w Φ zCp args vs.toList [])(kH:args.length<=zAk) :
  Calls P f vs w fun e w'=>e = .returned (.bool true)/\w.heap.size<=w'.heap.size/\(∀ b,b<w.heap.size->w'.heap[b]? = w.heap[b]?)/\w'.os=w.os/\w'.tape=w.tape/\w'.output=w.output:=by
 have qM:zAa=1000000000:=rfl;have hhh:zAk=50000000:=rfl;obtain⟨n0,hg⟩:=hg;obtain⟨_,hm⟩:=@zE9 P H (yo1 P H) zFr hnm zM7 hin (zQ7 zFr hnm zM7 hin) n0 f args [] (.bool true) [] (hg n0 (bi _));obtain⟨hZ,jQ⟩:=zL9 hr;have hvz:vs.size=args.length:=by rw[<- hZ];simp
 have p2:Conf w (fun b=>∃ s,b∈((fun _=>[]):Nat->LN) s) Φ w Φ (fun s=>(vs[s]?).getD undef) (fun s=>(zBg args []).get s) (fun _=>[]):=by
  refine⟨fun s=>?_,fun _=>b4,fun _ _ _ _ h=>(by cases h),fun _ _ h=>(by cases h),fun b hb=>⟨hΦ b hb,.inl hb⟩,fun _ h=>h,bi _,fun _ _ _=>rfl,rfl,rfl,rfl⟩;show Rep _ _ _ ((zBg args []).get s) _ _
  rw[zDs (by omega)];by_cases h1:s<args.length
  ·rw[if_pos h1];obtain⟨v,uC,uE⟩:=jQ s args[s] (bk h1);have:vs[s]? = some v:=by rw[<- bO];exact uC
   rw[this];simp only[List.getD,bk h1,de];exact uE.mono (fun b hb=>⟨hb,rfl⟩) (fun _ _ _ h=>h.elim) (by simp)
  ·rw[if_neg h1,if_neg (by simp only[cN];omega)];rfl
 have hc:=hm w Φ (fun s=>(vs[s]?).getD undef) (fun s=>(zBg args []).get s) (fun _=>[]) vs (fun _ _=>rfl) (fun s hs=>by
   rw[zDs (by omega),if_neg (by omega),if_neg (by simp only[cN];omega)]) p2 hvz (fun j hj=>by rw[cU (by omega)];rfl) (fun s hs _=>by rw[fh (by omega)];rfl)
 refine hc.mono fun e w' ⟨u,Φ',rv',E',L',he,C,_,_,vY⟩=>?_;obtain⟨h1,h2⟩:=vY.one (fun ps h=>by cases h);have hX:=C.rep zAI;rw[h1] at hX;have hu:u = .bool true:=by rw[<- h2];exact hX.1
 refine⟨by rw[he,hu],C.size,fun b hb=>C.kept b hb (fun⟨s,hs⟩=>by cases hs),C.os,C.tape,C.output⟩
end
end Go.Eng
namespace Go.Eng
open Go
section
variable [Yo] {P:Program} {H:zBh} {f:FuncId} {nt:Nat} {e e':Env} {lg:Option Log} {K:X->Env->Option Log->Prop} {i:Nat} {c:Code} {s:RS} {R:Env->Option Log->Prop} {fz tk nl:Bool} {orc:zAM}
theorem zC4(p:Prop)[Decidable p](h1:p->W P H f nt (cl c) e lg K)(h2:¬p->W P H f nt (cr c) e lg K)(hc:zEP c e=some (decide p):=by kernel_rfl):W P H f nt c e lg K :=
 zEE (decide p) (fun h=>h1 (of_decide_eq_true h)) (fun h=>h2 (of_decide_eq_false h)) hc
theorem zAL(p:Prop)[Decidable p](hp:p)(h1:W P H f nt (cl c) e lg K)(hc:zEP c e=some (decide p):=by kernel_rfl):W P H f nt c e lg K :=
 zEE (decide p) (fun _=>h1) (fun h=>absurd hp (of_decide_eq_false h)) hc
theorem zAS(p:Prop)[Decidable p](hp:¬p)(h2:W P H f nt (cr c) e lg K)(hc:zEP c e=some (decide p):=by kernel_rfl):W P H f nt c e lg K :=
 zEE (decide p) (fun h=>absurd (of_decide_eq_true h) hp) (fun _=>h2) hc
theorem zDZ(p:Prop)[Decidable p](h1:¬p->W P H f nt (cl c) e lg K)(h2:p->W P H f nt (cr c) e lg K)(hc:zEP c e=some (!decide p):=by kernel_rfl):W P H f nt c e lg K :=
 zEE (!decide p) (fun h=>h1 (by simpa using h)) (fun h=>h2 (by simpa using h)) hc
theorem zIb(p:Prop)[Decidable p](hp:¬p)(h1:W P H f nt (cl c) e lg K)(hc:zEP c e=some (!decide p):=by kernel_rfl):W P H f nt c e lg K :=
 zDZ p (fun _=>h1) (fun h=>absurd h hp) hc
theorem zH6(p:Prop)[Decidable p](hp:p)(h1:W P H f nt (cr c) e lg K)(hc:zEP c e=some (!decide p):=by kernel_rfl):W P H f nt c e lg K :=
 zDZ p (fun h=>absurd hp h) (fun _=>h1) hc
theorem zFD(t:Nat)(b:Bool)(h1:b=true->WS P H f c i ⟨s.dr,s.e.set t (.bool true),s.lg⟩ R)(h2:b=false->WS P H f c i ⟨s.dr,s.e.set t (.bool false),s.lg⟩ R)(hb:s.e.set t (.bool b)=s.e:=by kernel_rfl):WS P H f c i s R:=by
 obtain⟨dr,e,lg⟩:=s;simp only at h1 h2 hb;rw[<- hb]
 cases b with
 |true=>exact h1 rfl|false=>exact h2 rfl
theorem zJ5(t:Nat)(p:Prop)[Decidable p](h1:p->WS P H f c i ⟨s.dr,s.e.set t (.bool true),s.lg⟩ R)(h2:¬p->WS P H f c i ⟨s.dr,s.e.set t (.bool false),s.lg⟩ R)(hb:s.e.set t (.bool (decide p))=s.e:=by kernel_rfl):WS P H f c i s R :=
 zFD t (decide p) (fun h=>h1 (of_decide_eq_true h)) (fun h=>h2 (of_decide_eq_false h)) hb
theorem zPE(t:Nat)(p:Prop)[Decidable p](hp:p)(h1:WS P H f c i ⟨s.dr,s.e.set t (.bool true),s.lg⟩ R)(hb:s.e.set t (.bool (decide p))=s.e:=by kernel_rfl):WS P H f c i s R :=
 zJ5 t p (fun _=>h1) (fun h=>absurd hp h) hb
theorem zIG(t:Nat)(p:Prop)[Decidable p](hp:¬p)(h1:WS P H f c i ⟨s.dr,s.e.set t (.bool false),s.lg⟩ R)(hb:s.e.set t (.bool (decide p))=s.e:=by kernel_rfl):WS P H f c i s R :=
 zJ5 t p (fun h=>absurd h hp) (fun _=>h1) hb
theorem zMD(t:Nat)(p:Prop)[Decidable p](h1:¬p->WS P H f c i ⟨s.dr,s.e.set t (.bool true),s.lg⟩ R)(h2:p->WS P H f c i ⟨s.dr,s.e.set t (.bool false),s.lg⟩ R)(hb:s.e.set t (.bool (!decide p))=s.e:=by kernel_rfl):WS P H f c i s R :=
 zFD t (!decide p) (fun h=>h1 (by simpa using h)) (fun h=>h2 (by simpa using h)) hb
theorem zWV(t:Nat)(p:Prop)[Decidable p](hp:p)(h1:WS P H f c i ⟨s.dr,s.e.set t (.bool false),s.lg⟩ R)(hb:s.e.set t (.bool (!decide p))=s.e:=by kernel_rfl):WS P H f c i s R :=
 zMD t p (fun h=>absurd hp h) (fun _=>h1) hb
theorem get_map{α β:Type}{g:α->β}{l:List α}{i:Nat}{d:α}(h:i<l.length):(l.map g)[i]? = some (g (l.getD i d)):=by
 simp[List.getD,bk h]
def zZp(e:Env)(p q:PV)(l:List (Nat×zA4))(t:Tok):Prop:=∀ (orc:zAM) (k:PV->List (Nat×zA4)->PM),(zQW p k).runT orc e=((k q l).runT orc e).map fun y=>(y.1,Tok.join t y.2)
inductive SeenAllT (e:Env):LN->List PV->List Arg->List Tok->Prop where
 |nil {ms}:SeenAllT e ms [] [] []
 |ref {ms ps as ts p}:SeenAllT e ms.tail ps as ts->(hb:beq (ms.headD 0) 1=true:=by kernel_rfl)->SeenAllT e ms (p::ps) ({p:=p,byref:=true}::as) ts
 |one {ms ps as ts p q l t}:zZp e p q l t->SeenAllT e ms.tail ps as ts->(hb:beq (ms.headD 0) 1=false:=by kernel_rfl)->SeenAllT e ms (p::ps) ({p:=q,shared:=l}::as) (t::ts)
def zMt:List (Nat×PV)->Env->Env
 |[],e=>e|(k,v)::l,e=>zMt l (e.set k v)
theorem zAu{σ:Type}{c:Code}(Inv:σ->Prop)(upd:σ->List (Nat×PV))(μ:σ->Nat)(s:σ)(hi:Inv s) (h:∀ s,Inv s->W P H f nt (cl c) (zMt (upd s) (e.drop ((H f).loopDrop (zA5 (cl c))))) lg fun x e' lg'=>match x with
   |.norm=>∃ s',Inv s'/\μ s'<μ s/\e'.drop ((H f).loopDrop (zA5 (cl c)))=zMt (upd s') (e.drop ((H f).loopDrop (zA5 (cl c))))/\lg'=lg|x=>K x e' lg') (hs:e.drop ((H f).loopDrop (zA5 (cl c)))=zMt (upd s) (e.drop ((H f).loopDrop (zA5 (cl c)))):=by kernel_rfl) (hc:zPb c=true:=by kernel_rfl):W P H f nt c e lg K :=
 zYb Inv (fun s=>zMt (upd s) (e.drop ((H f).loopDrop (zA5 (cl c))))) μ s hi h hs hc
end
end Go.Eng
namespace Go.Eng
open Go
theorem zJp{x:Nat->Option (List (List PV))}{r:List (List PV)}(h:∀ i,x i=some r):zCe x=some r:=by
 have h':∃ r,∀ i,x i=some r:=⟨r,h⟩;simp only[zCe,dif_pos h'];have:=(dU h') 0;rw[h 0] at this;exact this.symm
section
def zVJ[Yo](g:FuncId)(first caps:List PV)(k:Int)(xs:List (List PV)):Prop:=∀ i,Yo.yo g first i caps k=some xs
def zGr[Yo](g:FuncId)(first caps:List PV)(xs:List (List PV)):Prop:=zVJ g first caps (-1) xs/\∀ j:Nat,1<=j->j<=xs.length->zVJ g first caps j (xs.take j)
variable [Yo] (P:Program) (H:zBh)
def zMc(f:FuncId)(nt:Nat)(ps:List Tmp)(assign body:Code)(x:List PV)(e:Env)(K:X->Env->Prop):Prop :=
 ∃ e1,zCI ps x e=some e1/\W P H f nt assign e1 none fun y e2 lg=>y = .norm/\lg=none/\W P H f nt body e2 none fun y e3 lg=>lg=none/\K y e3
def Rg(f:FuncId)(nt:Nat)(ps:List Tmp)(assign body:Code)(R ds:LN)(K:X->Env->Option Log->Prop):List (List PV)->Env->Prop
 |[],e=>K .norm e none
 | x :: xs,e=>zMc P H f nt ps assign body x e fun y e3=>match y with
  |.norm=>match R with
   |[]=>Rg f nt ps assign body R ds K xs (after nt [] ds e e3)|r::R'=>zGz e (zC5 e (r::R'))=true/\∃ e1,zEK (zC5 e (r::R')) e=some e1/\zMc P H f nt ps assign body x e1 fun y e3=>y = .norm/\Rg f nt ps assign body R ds K xs (after nt (zC5 e (r::R')) ds e e3)
  |y=>K y (after nt [] ds e e3) none
end
section
variable [Yo] {P:Program} {H:zBh} {f:FuncId} {nt:Nat} {e e':Env} {lg:Option Log} {K:X->Env->Option Log->Prop}
noncomputable abbrev zN9(P:Program)(H:zBh)(f:FuncId)(nt n m:Nat):Code->Env->Option (X×Env):=fun c e=>match exec P H (zCL P H n) Yo.yo zCe nt (H f) m c e none with|some (x,e',none)=>some (x,e')|_=>none
def zPD(run:Code->Env->Option (X×Env))(ps:List Tmp)(assign body:Code)(x:List PV)(e:Env):Option (X×Env):=match zCI ps x e with
 |some e1=>match run assign e1 with
  |some (.norm,e2)=>run body e2|_=>none
 |none=>none
theorem zBZ{run:Code->Env->Option (X×Env)}{ps:List Tmp}{assign body:Code}{R ds:LN}{x:List PV}{xs:List (List PV)}{j:Nat}:zDn nt run ps assign body R ds (x::xs) e j=(match zPD run ps assign body x e with
  | some (.norm,e3)=>match R with
   |[]=>zDn nt run ps assign body R ds xs (after nt [] ds e e3) (j+1)
   | r :: R=>match (bif zGz e (zC5 e (r::R)) then zEK (zC5 e (r::R)) e else none) with
    |some e1=>match zPD run ps assign body x e1 with
     |some (.norm,e3)=>zDn nt run ps assign body (r::R) ds xs (after nt (zC5 e (r::R)) ds e e3) (j+1)|_=>none
    |none=>none
  |some (r,e3)=>some (some (j+1,r),after nt [] ds e e3)|none=>none):=by
 cases R<;>rfl
theorem zMc.run{ps:List Tmp}{assign body:Code}{x:List PV}{K:X->Env->Prop}(h:zMc P H f nt ps assign body x e K):∃ n0 y e3,(∀ n m,n0<=n->n0<=m->zPD (zN9 P H f nt n m) ps assign body x e=some (y,e3))/\K y e3:=by
 obtain⟨e1,h1,n1,y,e2,lg,h2,rfl,rfl,n2,z,e3,lg,h3,rfl,h4⟩:=h;refine⟨max n1 n2,z,e3,fun n m hn hm=>?_,h4⟩;simp only[zPD,h1,zN9,h2 n m (by omega) (by omega),h3 n m (by omega) (by omega)]
theorem Rg.run{ps:List Tmp}{assign body:Code}{R ds:LN}:∀ {xs:List (List PV)} {e:Env},Rg P H f nt ps assign body R ds K xs e->∃ n0,
  (∃ e',(∀ n m j,n0<=n->n0<=m->zDn nt (zN9 P H f nt n m) ps assign body R ds xs e j=some (none,e'))/\K .norm e' none) \/
  (∃ i y e',i<xs.length/\y ≠ .norm/\(∀ n m j,n0<=n->n0<=m->zDn nt (zN9 P H f nt n m) ps assign body R ds xs e j=some (some (j+i+1,y),e')) /\
   (∀ n m j,n0<=n->n0<=m->zDn nt (zN9 P H f nt n m) ps assign body R ds (xs.take (i+1)) e j=some (some (j+i+1,y),e'))/\K y e' none)
 |[],e,h=>⟨0,.inl ⟨e,fun _ _ _ _ _=>rfl,h⟩⟩
 | x :: xs,e,h=>by
  obtain⟨n1,y,e3,h1,h2⟩:=zMc.run h
  cases y with
  | norm =>
   cases R with
   | nil =>
    simp only at h2;obtain⟨n2,h3⟩:=Rg.run h2;refine⟨max n1 n2,?_⟩;rcases h3 with⟨e',h3,h4⟩|⟨i,y,e',hi,hy,h3,h4,h5⟩
    ·exact .inl ⟨e',fun n m j hn hm=>by rw[zBZ,h1 n m (by omega) (by omega)];exact h3 n m _ (by omega) (by omega),h4⟩
    ·refine .inr ⟨i+1,y,e',by simp;omega,hy,fun n m j hn hm=>?_,fun n m j hn hm=>?_,h5⟩
     ·rw[zBZ,h1 n m (by omega) (by omega)];simp only;rw[h3 n m _ (by omega) (by omega)];simp only[ba,bw,and_true];omega
     ·rw[d8,zBZ,h1 n m (by omega) (by omega)];simp only;rw[h4 n m _ (by omega) (by omega)];simp only[ba,bw,and_true];omega
   | cons r R' =>
    simp only at h2;obtain⟨hc,e1,hf,hr⟩:=h2;obtain⟨n3,z,e4,h6,rfl,h7⟩:=zMc.run hr;obtain⟨n2,h3⟩:=Rg.run h7;refine⟨max n1 (max n2 n3),?_⟩;rcases h3 with⟨e',h3,h4⟩|⟨i,y,e',hi,hy,h3,h4,h5⟩
    ·exact .inl ⟨e',fun n m j hn hm=>by rw[zBZ,h1 n m (by omega) (by omega)];simp only[hc,cond_true,hf,h6 n m (by omega) (by omega)];exact h3 n m _ (by omega) (by omega),h4⟩
    ·refine .inr ⟨i+1,y,e',by simp;omega,hy,fun n m j hn hm=>?_,fun n m j hn hm=>?_,h5⟩
     ·rw[zBZ,h1 n m (by omega) (by omega)];simp only[hc,cond_true,hf,h6 n m (by omega) (by omega)];rw[h3 n m _ (by omega) (by omega)];simp only[ba,bw,and_true];omega
     ·rw[d8,zBZ,h1 n m (by omega) (by omega)];simp only[hc,cond_true,hf,h6 n m (by omega) (by omega)];rw[h4 n m _ (by omega) (by omega)];simp only[ba,bw,and_true];omega
  |ex id=>
   refine⟨n1,.inr ⟨0,.ex id,_,by simp,by simp,fun n m j hn hm=>?_,fun n m j hn hm=>?_,h2⟩⟩
   ·rw[zBZ,h1 n m (by omega) (by omega)]
   ·rw[d8,zBZ,h1 n m (by omega) (by omega)]
  |ret=>
   refine⟨n1,.inr ⟨0,.ret,_,by simp,by simp,fun n m j hn hm=>?_,fun n m j hn hm=>?_,h2⟩⟩
   ·rw[zBZ,h1 n m (by omega) (by omega)]
   ·rw[d8,zBZ,h1 n m (by omega) (by omega)]
def rgT:Code->ON
 |.rangeFunc (.tmp t) _ _ _=>some t|_=>none
def zXW:Code->List Tmp
 |.rangeFunc _ ps _ _=>ps.toList|_=>[]
def rgA:Code->Code
 |.rangeFunc _ _ a _=>a|c=>c
def rgB:Code->Code
 |.rangeFunc _ _ _ b=>b|c=>c
def zXN(c:Code):LN:=zXW c++zB3 (rgA c)++zB3 (rgB c)
theorem zXq{t:Tmp}{ps:Array Tmp}{assign body:Code}{g:FuncId}{first caps:List PV}{R:LN}{xs:List (List PV)}(yO:zD1 e t=some (g,first,caps,R))(hY:zGr g first caps xs)
  (h:Rg P H f nt ps.toList assign body R (ps.toList++zB3 assign++zB3 body) K xs e):W P H f nt (.rangeFunc (.tmp t) ps assign body) e none K:=by
 obtain⟨hY1,hY2⟩:=hY;obtain⟨n2,hr⟩:=Rg.run h;rcases hr with⟨e',h3,h4⟩|⟨i,y,e',hi,hy,h3,h4,h5⟩
 ·refine⟨n2+1,.norm,e',none,fun n m hn hm=>?_,h4⟩;obtain⟨m,rfl⟩:∃ k,m=k+1:=⟨m-1,by omega⟩;show(zHl nt Yo.yo zCe (zN9 P H f nt n m) t ps.toList assign body e).map (fun x=>(x.1,x.2,none))=_
  simp only[zHl,yO,zJp (fun i=>hY1 i),h3 n m 0 (by omega) (by omega),bu]
 ·have hY2:=hY2 (i+1) (by omega) (by omega);refine⟨n2+1,y,e',none,fun n m hn hm=>?_,h5⟩;obtain⟨m,rfl⟩:∃ k,m=k+1:=⟨m-1,by omega⟩;show(zHl nt Yo.yo zCe (zN9 P H f nt n m) t ps.toList assign body e).map (fun x=>(x.1,x.2,none))=_
  simp only[zHl,yO,zJp (fun i=>hY1 i),h3 n m 0 (by omega) (by omega)];have hcast:((0+i+1:Nat):Int)=((i+1:Nat):Int):=by omega
  rw[hcast,zJp (fun i=>hY2 i)];simp only[h4 n m 0 (by omega) (by omega),bY];rw[if_pos ⟨trivial,by omega⟩];rfl
theorem zSe{c:Code}{t g:Nat}{first caps:List PV}{R:LN}{xs:List (List PV)}(hY:zGr g first caps xs)(h:Rg P H f nt (zXW c) (rgA c) (rgB c) R (zXN c) K xs e)(yO:zD1 e t=some (g,first,caps,R):=by kernel_rfl)(hc:rgT c=some t:=by kernel_rfl)(hl:lg=none:=by kernel_rfl):W P H f nt c e lg K:=by
 subst hl;cases c<;>try (cases hc;done)
 rename_i x ps a b;cases x<;>try (cases hc;done)
 rename_i u;simp only[rgT,ba] at hc;subst hc;exact zXq yO hY h
theorem zXl{σ:Type}{c:Code}{t g:Nat}{first caps:List PV}{xs:List (List PV)}(hY:zGr g first caps xs)(Inv:Nat->σ->Prop)(I:σ->Env)(s:σ)(hi:Inv 0 s)
  (h:∀ j x s,xs[j]? = some x->Inv j s->zMc P H f nt (zXW c) (rgA c) (rgB c) x (I s) fun y e3=>match y with
   |.norm=>∃ s',Inv (j+1) s'/\after nt [] (zXN c) (I s) e3=I s'|y=>K y (after nt [] (zXN c) (I s) e3) none) (hK:∀ s,Inv xs.length s->K .norm (I s) none) (hs:e=I s:=by kernel_rfl) (yO:zD1 e t=some (g,first,caps,[]):=by kernel_rfl) (hc:rgT c=some t:=by kernel_rfl) (hl:lg=none:=by kernel_rfl):W P H f nt c e lg K:=by
 refine zSe hY ?_ yO hc hl;clear yO hY;subst hs;have key:∀ (ys:List (List PV)) (j:Nat) (s:σ),xs.drop j=ys->j<=xs.length->Inv j s->Rg P H f nt (zXW c) (rgA c) (rgB c) [] (zXN c) K ys (I s):=by
  intro ys
  induction ys with
  | nil =>
   intro j s hd hj hi;have:j=xs.length:=by
    have:=congrArg length hd;simp at this;omega
   subst this;exact hK s hi
  | cons x ys ih =>
   intro j s hd hj hi;have hx:xs[j]? = some x:=by
    have:=congrArg (fun l=>l[0]?) hd;simpa using this
   have yL:=(bf.1 hx).1;obtain⟨e1,h1,h2⟩:=h j x s hx hi;refine⟨e1,h1,zRU h2 fun y e2 lg ⟨a1,a2,a3⟩=>⟨a1,a2,zRU a3 fun y e3 lg ⟨b1,b2⟩=>⟨b1,?_⟩⟩⟩
   cases y with
   |norm=>
    obtain⟨s',yz,he⟩:=b2;simp only;rw[he];refine ih (j+1) s' ?_ (by omega) yz;rw[<- dB,hd];rfl
   |ex id=>exact b2|ret=>exact b2
 exact key xs 0 s rfl (by omega) hi
theorem zPW{ps:List Tmp}{a b:Code}{x:List PV}{K:X->Env->Prop}(h:W P H f nt a ((zCI ps x e).getD []) none fun y e2 lg=>y = .norm/\lg=none/\W P H f nt b e2 none fun y e3 lg=>lg=none/\K y e3)(hp:(zCI ps x e).isSome=true:=by kernel_rfl):zMc P H f nt ps a b x e K:=by
 obtain⟨e1,h1⟩:=dE.1 hp;rw[h1] at h;exact⟨e1,h1,h⟩
omit [Yo] in
theorem zVg(fn:Func){g:FuncId}{first caps:List PV}{k:Int}{xs:List (List PV)}(h:∀ i,@W yo0 P H g fn.ntmps (fn.body.getD .ret) (zBg (first++PV.yld i::caps) []) (some ⟨[],k,i⟩) fun x _ lg=>(x = .norm\/x = .ret)/\lg.map (·.xs)=some xs)(hk:k≠0)
  (hf:P.funcs[g]? = some fn:=by kernel_rfl) (hb:fn.body.isSome=true:=by kernel_rfl) (hc:∀ i,(ble (first++PV.yld i::caps).length fn.ntmps&&fn.results.isEmpty&&(first++caps).all (fun p=>!p.isTup))=true:=by intro i;kernel_rfl) (hin:beq (H g).intr 0=true:=by kernel_rfl):@zVJ (yo1 P H) g first caps k xs:=by
 intro i;obtain⟨body,hb⟩:∃ body,fn.body=some body:=by cases hx:fn.body<;>first|exact⟨_,rfl⟩|(rw[hx] at hb;cases hb)
 have h:=h i;simp only[hb,de] at h;obtain⟨n0,x,e1,lg1,h1,hx,hl⟩:=h;refine zW9 (n0:=n0) fun n hn=>?_;have jg:=h1 n (n+1) (by omega) (by omega)
 cases lg1 with
 |none=>cases hl|some l=>
  simp only[bu,ba] at hl;simp only[zVk,zYK,hf,hb];have qD:(k != 0)=true:=by simpa using hk
  have hc':=hc i;rw[hc',qD,hin];simp only[dH,cond_true,jg];rcases hx with rfl|rfl<;>simp[hl]
end
end Go.Eng
namespace Go.Eng
open Go
inductive PX where
 |ok|fail|emb (p:PM)
 |view (s:Nat) (k:PV->PX)|get (s:Nat) (k:PV->PX)|set (s:Nat) (p:PV) (k:PX)
 |cells (r:Nat) (pre:zA4) (i c n:Nat) (k:Bool->List PV->PX)|deep (r:Nat) (pre:zA4) (k:PV->PX)
 |wcells (r:Nat) (pre:zA4) (i c:Nat) (qs:List PV) (k:PX)|wnode (r:Nat) (pre:zA4) (q:PV) (k:PX)
 |kill (r:Nat) (pre:zA4) (k:PX)|frz (r:Nat) (pre:zA4) (k:PX)|frzp (r:Nat) (pre:zA4) (p:PV) (k:PV->PX)|killEx (r:Nat) (keep:List zA4) (k:PX)
 |call (f:FuncId) (args hid:List PV) (k:PV->List PV->PX)
 |test (b:Bool) (k:PX)|pick (x:Option PV) (k:PV->PX)|num (x:ON) (k:Nat->PX)|idx (x:Option ON) (k:ON->PX)
 |choose (b:Bool) (k1 k2:PX)|same (p:PV) (k:PV->PX)|sames (ps:List PV) (k:List PV->PX)
 |nats (x:LN) (k:LN->PX)|pure (d:ON) (f:FuncId) (args:List PV) (k:PX)
def PX.toPM:PX->PM
 |.ok=>.ok|.fail=>.fail|.emb p=>p|.view s k=>.view s fun p=>(k p).toPM
 |.get s k=>.get s fun p=>(k p).toPM
 |.set s p k=>.set s p k.toPM|.cells r pre i c n k=>.cells r pre i c n fun a qs=>(k a qs).toPM
 |.deep r pre k=>.deep r pre fun q=>(k q).toPM
 |.wcells r pre i c qs k=>.wcells r pre i c qs k.toPM|.wnode r pre q k=>.wnode r pre q k.toPM|.kill r pre k=>.kill r pre k.toPM|.frz r pre k=>.frz r pre k.toPM|.frzp r pre p k=>.frz r pre (k p).toPM|.killEx r keep k=>.killEx r keep k.toPM|.call f args hid k=>.call f args hid fun v h=>(k v h).toPM
 |.test b k=>bif b then k.toPM else .fail|.pick x k=>match x with
  |some v=>(k v).toPM|none=>.fail
 |.num x k=>match x with
  |some v=>(k v).toPM|none=>.fail
 |.idx x k=>match x with
  |some v=>(k v).toPM|none=>.fail
 |.choose b k1 k2=>bif b then k1.toPM else k2.toPM|.same p k=>(k p).toPM|.sames ps k=>(k ps).toPM|.nats x k=>(k x).toPM|.pure _ _ _ k=>k.toPM
inductive An where
 |ob|v (p:PV)|vs (ps:List PV)|n (k:Nat)|ix (k:ON)|yes|no|cs (a:Bool) (qs:List PV)|root (r:PV) (kept:Bool)|ret (v:PV) (hid:List PV)|ns (l:LN)|env (e:Env)|envv (e:Env) (q:PV)
abbrev Ans:=List (Nat×An)
def zGI:Ans->Option An×Ans
 |[]=>(none,[])|(0,a)::l=>(some a,l)|(n+1,a)::l=>(none,(n,a)::l)
section
variable [Yo] (P:Program) (H:zBh)
def zUG(f:FuncId)(args:List PV)(v:PV):Prop:=∀ (d:ON) (e:Env),∃ n0,∀ n,n0<=n->(zOK H d f args).runT (zCL P H n) e=(put d v).runT (zCL P H n) e
abbrev XR:=Option (Env×Tok×List Prop)
def XR.tok(t:Tok)(x:XR):XR:=x.map fun y=>(y.1,Tok.join t y.2.1,y.2.2)
def XR.ob(q:Prop)(x:XR):XR:=x.map fun y=>(y.1,y.2.1,q::y.2.2)
def PX.run:PX->Ans->Env->XR
 |.ok,_,e=>some (e,{},[])|.fail,_,_=>none|.emb p,_,e=>(p.runT zHS e).map fun y=>(y.1,y.2,[])
 |.view s k,as,e=>((k (Eng.view s (e.get s))).run as e).tok {look:=[s]}|.get s k,as,e=>match e.get s with
  |.lock _=>none|p=>((k p).run as e).tok {rd:=[s]}
 |.set s p k,as,e=>(k.run as (e.set s p)).tok (zFI s (e.get s) p)
 | .cells r pre i c n k,as,e=>match zGI as with
  |(none,as)=>match zAo r (e.get r) pre i c n with
   |some (a,qs)=>((k a qs).run as e).tok {cel:=[(r,pre)]}|none=>none
  |(some (.cs a qs),as)=>(((k a qs).run as e).tok {cel:=[(r,pre)]}).ob (zAo r (e.get r) pre i c n=some (a,qs))|_=>none
 | .deep r pre k,as,e=>match zGI as with
  |(none,as)=>match zAC (e.get r).unlock pre with
   |some q=>((k q).run as e).tok {rd:=[r]}|none=>none
  |(some (.v q),as)=>(((k q).run as e).tok {rd:=[r]}).ob (zAC (e.get r).unlock pre=some q)|_=>none
 | .wcells r pre i c qs k,as,e=>match zGI as with
  |(none,as)=>match zBO (e.get r) pre i c qs with
   |some root=>(k.run as (e.set r root)).tok (zBo r [] (zAH (e.get r) root pre) (e.get r) root)|none=>none
  |(some (.root root kp),as)=>((k.run as (e.set r root)).tok (zBo r [] kp (e.get r) root)).ob (zBO (e.get r) pre i c qs=some root/\zAH (e.get r) root pre=kp)|_=>none
 | .wnode r pre q k,as,e=>match zGI as with
  |(none,as)=>bif (e.get r).isLock then none else match zAz (fun _=>some q) (e.get r) pre with
   |some root=>(k.run as (e.set r root)).tok (zBo r pre.dropLast (zAH (e.get r) root pre&&(pre.isEmpty || !q.isAgg)) (e.get r) root)|none=>none
  |(some (.root root kp),as)=>bif (e.get r).isLock then none else((k.run as (e.set r root)).tok (zBo r pre.dropLast (kp&&(pre.isEmpty || !q.isAgg)) (e.get r) root)).ob (zAz (fun _=>some q) (e.get r) pre=some root/\zAH (e.get r) root pre=kp)
  |_=>none
 |.kill r pre k,as,e=>(k.run as (e.kill r pre)).tok (zAX (zDx e fun z=>zAT r pre z.1 z.2) e.get (e.kill r pre).get [r] [])
 | .frz r pre k,as,e=>match zGI as with
  |(none,as)=>match e.frz r pre with
   |some e'=>(k.run as e').tok (zAX (r::zDx e fun z=>zAT r pre z.1 z.2) e.get e'.get [r] [])
   |none=>none
  |(some (.env e'),as)=>((k.run as e').tok (zAX (r::zDx e fun z=>zAT r pre z.1 z.2) e.get e'.get [r] [])).ob (e.frz r pre=some e')
  |_=>none
 | .frzp r pre p k,as,e=>match zGI as with
  |(none,as)=>match e.frz r pre with
   |some e'=>((k p).run as e').tok (zAX (r::zDx e fun z=>zAT r pre z.1 z.2) e.get e'.get [r] [])
   |none=>none
  |(some (.env e'),as)=>(((k p).run as e').tok (zAX (r::zDx e fun z=>zAT r pre z.1 z.2) e.get e'.get [r] [])).ob (e.frz r pre=some e')
  |(some (.envv e' q),as)=>(((k q).run as e').tok (zAX (r::zDx e fun z=>zAT r pre z.1 z.2) e.get e'.get [r] [])).ob (e.frz r pre=some e'/\p=q)
  |_=>none
 |.killEx r keep k,as,e=>(k.run as (e.killEx r keep)).tok (zAX (zDx e fun z=>beq z.1 r && !z.2.isEmpty) e.get (e.killEx r keep).get [] [r])
 |.call f args hid k,as,e=>match zGI as with
  |(some (.ret v hO),as)=>((k v hO).run as e).ob (zBM P H f args hid v hO)|_=>none
 |.test b k,as,e=>match zGI as with
  |(none,as)=>bif b then k.run as e else none|(some .ob,as)=>(k.run as e).ob (b=true)|_=>none
 | .pick x k,as,e=>match zGI as with
  |(none,as)=>match x with
   |some v=>(k v).run as e|none=>none
  |(some (.v v),as)=>((k v).run as e).ob (x=some v)|_=>none
 | .num x k,as,e=>match zGI as with
  |(none,as)=>match x with
   |some v=>(k v).run as e|none=>none
  |(some (.n v),as)=>((k v).run as e).ob (x=some v)|_=>none
 | .idx x k,as,e=>match zGI as with
  |(none,as)=>match x with
   |some v=>(k v).run as e|none=>none
  |(some (.ix v),as)=>((k v).run as e).ob (x=some v)|_=>none
 |.choose b k1 k2,as,e=>match zGI as with
  |(none,as)=>bif b then k1.run as e else k2.run as e|(some .yes,as)=>(k1.run as e).ob (b=true)|(some .no,as)=>(k2.run as e).ob (b=false)|_=>none
 |.same p k,as,e=>match zGI as with
  |(none,as)=>(k p).run as e|(some (.v q),as)=>((k q).run as e).ob (p=q)|_=>none
 |.sames ps k,as,e=>match zGI as with
  |(none,as)=>(k ps).run as e|(some (.vs qs),as)=>((k qs).run as e).ob (ps=qs)|_=>none
 |.nats x k,as,e=>match zGI as with
  |(none,as)=>(k x).run as e|(some (.ns l),as)=>((k l).run as e).ob (x=l)|_=>none
 |.pure d f args k,as,e=>match zGI as with
  |(none,as)=>k.run as e|(some (.v v),_)=>XR.ob (zUG P H f args v/\k.toPM=zOK H d f args) (((put d v).runT zHS e).map fun y=>(y.1,y.2,[]))
  |_=>none
def zTr:List Prop->Prop
 |[]=>True|p::ps=>p/\zTr ps
end
section
variable [Yo] {P:Program} {H:zBh}
theorem XR.tok_some{t u:Tok}{x:XR}{e':Env}{obs:List Prop}(h:x.tok t=some (e',u,obs)):∃ u',x=some (e',u',obs)/\u=Tok.join t u':=by
 obtain⟨⟨a,b,c⟩,h1,h2⟩:=bm.1 h;simp only[bw] at h2;obtain⟨rfl,rfl,rfl⟩:=h2;exact⟨_,h1,rfl⟩
theorem XR.ob_some{q:Prop}{u:Tok}{x:XR}{e':Env}{obs:List Prop}(h:x.ob q=some (e',u,obs)):∃ o',x=some (e',u,o')/\obs=q::o':=by
 obtain⟨⟨a,b,c⟩,h1,h2⟩:=bm.1 h;simp only[bw] at h2;obtain⟨rfl,rfl,rfl⟩:=h2;exact⟨_,h1,rfl⟩
theorem PX.run_ok:∀ {p:PX} {as:Ans} {e e':Env} {t:Tok} {obs:List Prop},p.run P H as e=some (e',t,obs)->zTr obs->∃ n0,∀ n,n0<=n->p.toPM.runT (zCL P H n) e=some (e',t):=by
 intro p
 induction p with
 |ok=>intro as e e' t obs h _;simp only[PX.run,ba,bw] at h;obtain⟨rfl,rfl,_⟩:=h;exact⟨0,fun _ _=>rfl⟩
 |fail=>intro as e e' t obs h _;cases h|emb p=>
  intro as e e' t obs h _;obtain⟨⟨a,b⟩,h1,h2⟩:=bm.1 h;simp only[bw] at h2;obtain⟨rfl,rfl,_⟩:=h2;exact⟨0,fun _ _=>zIR h1⟩
 |view s k ih=>
  intro as e e' t obs h ha;obtain⟨u,h1,rfl⟩:=XR.tok_some h;obtain⟨n0,h2⟩:=ih _ h1 ha;exact⟨n0,fun n hn=>by simp only[PX.toPM,PM.runT,h2 n hn];rfl⟩
 | get s k ih =>
  intro as e e' t obs h ha;simp only[PX.run] at h;cases hg:e.get s<;>rw[hg] at h<;>simp only at h<;>try (cases h;done)
  all_goals
   obtain⟨u,h1,rfl⟩:=XR.tok_some h;obtain⟨n0,h2⟩:=ih _ h1 ha;exact⟨n0,fun n hn=>by simp only[PX.toPM,PM.runT,hg,h2 n hn];rfl⟩
 |set s q k ih=>
  intro as e e' t obs h ha;obtain⟨u,h1,rfl⟩:=XR.tok_some h;obtain⟨n0,h2⟩:=ih h1 ha;exact⟨n0,fun n hn=>by simp only[PX.toPM,PM.runT,h2 n hn];rfl⟩
 | cells r pre i c n k ih =>
  intro as e e' t obs h ha;simp only[PX.run] at h;split at h
  ·split at h
   ·rename_i hr;obtain⟨u,h1,rfl⟩:=XR.tok_some h;obtain⟨n0,h2⟩:=ih _ _ h1 ha;exact⟨n0,fun n hn=>by simp only[PX.toPM,PM.runT,hr,h2 n hn];rfl⟩
   ·cases h
  ·obtain⟨o,h0,rfl⟩:=XR.ob_some h;obtain⟨u,h1,rfl⟩:=XR.tok_some h0;obtain⟨n0,h2⟩:=ih _ _ h1 ha.2;exact⟨n0,fun n hn=>by simp only[PX.toPM,PM.runT,ha.1,h2 n hn];rfl⟩
  ·cases h
 | deep r pre k ih =>
  intro as e e' t obs h ha;simp only[PX.run] at h;split at h
  ·split at h
   ·rename_i hr;obtain⟨u,h1,rfl⟩:=XR.tok_some h;obtain⟨n0,h2⟩:=ih _ h1 ha;exact⟨n0,fun n hn=>by simp only[PX.toPM,PM.runT,hr,h2 n hn];rfl⟩
   ·cases h
  ·obtain⟨o,h0,rfl⟩:=XR.ob_some h;obtain⟨u,h1,rfl⟩:=XR.tok_some h0;obtain⟨n0,h2⟩:=ih _ h1 ha.2;exact⟨n0,fun n hn=>by simp only[PX.toPM,PM.runT,ha.1,h2 n hn];rfl⟩
  ·cases h
 | wcells r pre i c qs k ih =>
  intro as e e' t obs h ha;simp only[PX.run] at h;split at h
  ·split at h
   ·rename_i hr;obtain⟨u,h1,rfl⟩:=XR.tok_some h;obtain⟨n0,h2⟩:=ih h1 ha;exact⟨n0,fun n hn=>by simp only[PX.toPM,PM.runT,hr,h2 n hn];rfl⟩
   ·cases h
  ·obtain⟨o,h0,rfl⟩:=XR.ob_some h;obtain⟨u,h1,rfl⟩:=XR.tok_some h0;obtain⟨n0,h2⟩:=ih h1 ha.2;exact⟨n0,fun n hn=>by simp only[PX.toPM,PM.runT,ha.1.1,ha.1.2,h2 n hn];rfl⟩
  ·cases h
 | wnode r pre q k ih =>
  intro as e e' t obs h ha;simp only[PX.run] at h;split at h
  ·rcases zBt h with⟨_,h⟩|⟨hl,h⟩
   ·cases h
   ·split at h
    ·rename_i hr;obtain⟨u,h1,rfl⟩:=XR.tok_some h;obtain⟨n0,h2⟩:=ih h1 ha;exact⟨n0,fun n hn=>by simp only[PX.toPM,PM.runT,hl,cond_false,hr,h2 n hn];rfl⟩
    ·cases h
  ·rcases zBt h with⟨_,h⟩|⟨hl,h⟩
   ·cases h
   ·obtain⟨o,h0,rfl⟩:=XR.ob_some h;obtain⟨u,h1,rfl⟩:=XR.tok_some h0;obtain⟨n0,h2⟩:=ih h1 ha.2;exact⟨n0,fun n hn=>by simp only[PX.toPM,PM.runT,hl,cond_false,ha.1.1,ha.1.2,h2 n hn];rfl⟩
  ·cases h
 |kill r pre k ih=>
  intro as e e' t obs h ha;obtain⟨u,h1,rfl⟩:=XR.tok_some h;obtain⟨n0,h2⟩:=ih h1 ha;exact⟨n0,fun n hn=>by simp only[PX.toPM,PM.runT,h2 n hn];rfl⟩
 | frz r pre k ih =>
  intro as e e' t obs h ha;simp only[PX.run] at h;split at h
  ·split at h
   ·rename_i hr;obtain⟨u,h1,rfl⟩:=XR.tok_some h;obtain⟨n0,h2⟩:=ih h1 ha;exact⟨n0,fun n hn=>by simp only[PX.toPM,PM.runT,hr,h2 n hn];rfl⟩
   ·cases h
  ·obtain⟨o,h0,rfl⟩:=XR.ob_some h;obtain⟨u,h1,rfl⟩:=XR.tok_some h0;obtain⟨n0,h2⟩:=ih h1 ha.2;exact⟨n0,fun n hn=>by simp only[PX.toPM,PM.runT,ha.1,h2 n hn];rfl⟩
  ·cases h
 | frzp r pre p k ih =>
  intro as e e' t obs h ha;simp only[PX.run] at h;split at h
  ·split at h
   ·rename_i hr;obtain⟨u,h1,rfl⟩:=XR.tok_some h;obtain⟨n0,h2⟩:=ih _ h1 ha;exact⟨n0,fun n hn=>by simp only[PX.toPM,PM.runT,hr,h2 n hn];rfl⟩
   ·cases h
  ·obtain⟨o,h0,rfl⟩:=XR.ob_some h;obtain⟨u,h1,rfl⟩:=XR.tok_some h0;obtain⟨n0,h2⟩:=ih _ h1 ha.2;exact⟨n0,fun n hn=>by simp only[PX.toPM,PM.runT,ha.1,h2 n hn];rfl⟩
  ·obtain⟨o,h0,rfl⟩:=XR.ob_some h;obtain⟨u,h1,rfl⟩:=XR.tok_some h0;obtain⟨⟨hf,rfl⟩,ha⟩:=ha;obtain⟨n0,h2⟩:=ih _ h1 ha;exact⟨n0,fun n hn=>by simp only[PX.toPM,PM.runT,hf,h2 n hn];rfl⟩
  ·cases h
 |killEx r keep k ih=>
  intro as e e' t obs h ha;obtain⟨u,h1,rfl⟩:=XR.tok_some h;obtain⟨n0,h2⟩:=ih h1 ha;exact⟨n0,fun n hn=>by simp only[PX.toPM,PM.runT,h2 n hn];rfl⟩
 |call f args hid k ih=>
  intro as e e' t obs h ha;simp only[PX.run] at h;split at h
  ·obtain⟨o,h1,rfl⟩:=XR.ob_some h;obtain⟨n0,h2⟩:=ih _ _ h1 ha.2;obtain⟨n1,h3⟩:=ha.1;exact⟨max n0 n1,fun n hn=>by simp only[PX.toPM,PM.runT,h3 n (by omega),h2 n (by omega)]⟩
  ·cases h
 | test b k ih =>
  intro as e e' t obs h ha;simp only[PX.run] at h;split at h
  ·rcases zBt h with⟨hb,h⟩|⟨_,h⟩
   ·obtain⟨n0,h2⟩:=ih h ha;exact⟨n0,fun n hn=>by simp only[PX.toPM,hb,cond_true,h2 n hn]⟩
   ·cases h
  ·obtain⟨o,h1,rfl⟩:=XR.ob_some h;obtain⟨n0,h2⟩:=ih h1 ha.2;exact⟨n0,fun n hn=>by simp only[PX.toPM,ha.1,cond_true,h2 n hn]⟩
  ·cases h
 | pick x k ih =>
  intro as e e' t obs h ha;simp only[PX.run] at h;split at h
  ·split at h
   ·obtain⟨n0,h2⟩:=ih _ h ha;exact⟨n0,fun n hn=>by simp only[PX.toPM,h2 n hn]⟩
   ·cases h
  ·obtain⟨o,h1,rfl⟩:=XR.ob_some h;obtain⟨n0,h2⟩:=ih _ h1 ha.2;exact⟨n0,fun n hn=>by simp only[PX.toPM,ha.1,h2 n hn]⟩
  ·cases h
 | num x k ih =>
  intro as e e' t obs h ha;simp only[PX.run] at h;split at h
  ·split at h
   ·obtain⟨n0,h2⟩:=ih _ h ha;exact⟨n0,fun n hn=>by simp only[PX.toPM,h2 n hn]⟩
   ·cases h
  ·obtain⟨o,h1,rfl⟩:=XR.ob_some h;obtain⟨n0,h2⟩:=ih _ h1 ha.2;exact⟨n0,fun n hn=>by simp only[PX.toPM,ha.1,h2 n hn]⟩
  ·cases h
 | idx x k ih =>
  intro as e e' t obs h ha;simp only[PX.run] at h;split at h
  ·split at h
   ·obtain⟨n0,h2⟩:=ih _ h ha;exact⟨n0,fun n hn=>by simp only[PX.toPM,h2 n hn]⟩
   ·cases h
  ·obtain⟨o,h1,rfl⟩:=XR.ob_some h;obtain⟨n0,h2⟩:=ih _ h1 ha.2;exact⟨n0,fun n hn=>by simp only[PX.toPM,ha.1,h2 n hn]⟩
  ·cases h
 | choose b k1 k2 ih1 ih2 =>
  intro as e e' t obs h ha;simp only[PX.run] at h;split at h
  ·rcases zBt h with⟨hb,h⟩|⟨hb,h⟩
   ·obtain⟨n0,h2⟩:=ih1 h ha;exact⟨n0,fun n hn=>by simp only[PX.toPM,hb,cond_true,h2 n hn]⟩
   ·obtain⟨n0,h2⟩:=ih2 h ha;exact⟨n0,fun n hn=>by simp only[PX.toPM,hb,cond_false,h2 n hn]⟩
  ·obtain⟨o,h1,rfl⟩:=XR.ob_some h;obtain⟨n0,h2⟩:=ih1 h1 ha.2;exact⟨n0,fun n hn=>by simp only[PX.toPM,ha.1,cond_true,h2 n hn]⟩
  ·obtain⟨o,h1,rfl⟩:=XR.ob_some h;obtain⟨n0,h2⟩:=ih2 h1 ha.2;exact⟨n0,fun n hn=>by simp only[PX.toPM,ha.1,cond_false,h2 n hn]⟩
  ·cases h
 |same p k ih=>
  intro as e e' t obs h ha;simp only[PX.run] at h;split at h
  ·exact ih _ h ha
  ·obtain⟨o,h1,rfl⟩:=XR.ob_some h;obtain⟨n0,h2⟩:=ih _ h1 ha.2;exact⟨n0,fun n hn=>by simp only[PX.toPM,ha.1,h2 n hn]⟩
  ·cases h
 |sames ps k ih=>
  intro as e e' t obs h ha;simp only[PX.run] at h;split at h
  ·exact ih _ h ha
  ·obtain⟨o,h1,rfl⟩:=XR.ob_some h;obtain⟨n0,h2⟩:=ih _ h1 ha.2;exact⟨n0,fun n hn=>by simp only[PX.toPM,ha.1,h2 n hn]⟩
  ·cases h
 |nats x k ih=>
  intro as e e' t obs h ha;simp only[PX.run] at h;split at h
  ·exact ih _ h ha
  ·obtain⟨o,h1,rfl⟩:=XR.ob_some h;obtain⟨n0,h2⟩:=ih _ h1 ha.2;exact⟨n0,fun n hn=>by simp only[PX.toPM,ha.1,h2 n hn]⟩
  ·cases h
 |pure d f args k ih=>
  intro as e e' t obs h ha;simp only[PX.run] at h;split at h
  ·exact ih h ha
  ·obtain⟨o,h1,rfl⟩:=XR.ob_some h;obtain⟨⟨a,b⟩,h2,h3⟩:=bm.1 h1;simp only[bw] at h3;obtain⟨rfl,rfl,_⟩:=h3;obtain⟨⟨hp,hk⟩,_⟩:=ha;obtain⟨n0,hp⟩:=hp d e;exact⟨n0,fun n hn=>by simp only[PX.toPM];rw[hk,hp n hn];exact zIR h2⟩
  ·cases h
end
end Go.Eng
namespace Go.Eng
open Go
def zHc(x:Operand)(k:PV->PX):PX :=
 match x with
 |.tmp t=>.view t k|.const v=>k (zEQ v)|.func f=>k (.func f [] [])|.global _=>.fail
def zKH(x:Operand)(k:PV->PX):PX :=
 match x with
 |.tmp t=>.get t fun p=>.choose p.heavy (.set t .bad (k p)) (k p)
 |.const v=>k (zEQ v)|.func f=>k (.func f [] [])|.global _=>.fail
def zQj:List Operand->(List PV->PX)->PX
 |[],k=>k []|x::xs,k=>zHc x fun p=>zQj xs fun ps=>k (p::ps)
def zXP(d:Nat)(p:PV)(k:PX):PX := .choose p.heavy (.kill d [] (.set d (p.mapW (lose d [])) k)) (.set d p k)
def zGG(d:ON)(p:PV):PX :=
 match d with
 |none=>.ok|some d=>.same p fun p=>bif p.isTup then .fail else zXP d p .ok
def zHA(d:Nat):Nat->List PV->PX->PX
 |n,[],k=>.set d (.tup (replicate n .bad)) k|i,p::ps,k=>.same p fun p=>zXP (zBD d i) p (zHA d (i+1) ps k)
def zFi(d:ON)(v:PV):PX :=
 match d,v with
 |some d,.tup vs=>.test (ble vs.length 16) (.test ((zBE vs).all (fun w=>!zJO d w.1)) (.set d .bad (zHA d 0 vs .ok)))
 |d,v=>zGG d v
def zGb:PV->(Nat->PX)->PX
 |.int _ n,k=>.test (decide (0<=n)) (.num (some n.toNat) k)|_,_=>.fail
def zTa(r:Nat)(pre:zA4)(i c:Nat)(sh:ON)(k:PV->PX):PX :=
 match sh with
 |some n=>.cells r pre i c n fun a qs=>bif a then k (.agg qs) else .fail
 |none=>.cells r pre i c 1 fun _ qs=>k (qs.headD .bad)
def zHq(r:Nat)(pre:zA4)(i:Nat):Nat->List PV->PX->PX
 |_,[],k=>k|c,q::qs,k=>bif q.heavy then .kill r (pre++[(i,c)]) (zHq r pre i (c+1) qs k) else zHq r pre i (c+1) qs k
def zTD(r:Nat)(pre:zA4)(i c:Nat)(qs:List PV)(k:PX):PX := .choose (qs.all fun q=>!q.heavy) k (zHq r pre i c qs k)
section
variable {k:PX} {kp:PV->PX}
theorem zCm{x:Operand}{k:PV->PX}:(zHc x k).toPM=opd x fun p=>(k p).toPM:=by cases x<;>rfl
theorem zBJ{α:Type}{b:Bool}{x y:α}:(bif b then x else y)=if b=true then x else y:=by cases b<;>rfl
theorem zFC{x:Operand}{k:PV->PX}:(zKH x k).toPM=zOh x fun p=>(k p).toPM:=by
 cases x<;>first|rfl|simp only[zKH,zOh,PX.toPM,zBJ]
theorem zIN:∀ {xs:List Operand} {k:List PV->PX},(zQj xs k).toPM=zT9 xs fun p=>(k p).toPM
 |[],_=>rfl|x::xs,k=>by simp only[zQj,zT9,zCm,zIN]
theorem zL7{d:Nat}{p:PV}{k:PX}:(zXP d p k).toPM=lay d p k.toPM:=by simp only[zXP,lay,PX.toPM]
theorem zC9{b:Bool}{x y:PX}:(bif b then x else y).toPM=bif b then x.toPM else y.toPM:=by cases b<;>rfl
theorem zP6{c:Prop}[Decidable c]{x y:PX}:(if c then x else y).toPM=if c then x.toPM else y.toPM:=by split<;>rfl
theorem zBH{d:ON}{p:PV}:(zGG d p).toPM=put d p:=by
 cases d with
 |none=>rfl|some d=>simp only[zGG,put,PX.toPM,zC9,zL7]
theorem zIt{d:Nat}:∀ {ps:List PV} {i:Nat} {k:PX},(zHA d i ps k).toPM=zFe d i ps k.toPM
 |[],_,_=>rfl|p::ps,i,k=>by simp only[zHA,zFe,PX.toPM,zL7,zIt]
theorem zDu{α:Type}{a b:Bool}{x y:α}:(bif a&&b then x else y)=bif a then(bif b then x else y) else y:=by cases a<;>rfl
theorem zEW{d:ON}{v:PV}:(zFi d v).toPM=zDB d v:=by
 cases d with
 |none=>cases v<;>simp only[zFi,zDB,zBH]
 |some d=>cases v<;>simp only[zFi,zDB,PX.toPM,zIt,zDu,zBH]
theorem zES{p:PV}{k:Nat->PX}:(zGb p k).toPM=zGN p fun n=>(k n).toPM:=by
 cases p<;>first|rfl|skip
 simp only[zGb,zGN,PX.toPM,zBJ,decide_eq_true_eq]
theorem zL6{r:Nat}{pre:zA4}{i c:Nat}{sh:ON}{k:PV->PX}:(zTa r pre i c sh k).toPM=zNF r pre i c sh fun p=>(k p).toPM:=by
 cases sh<;>simp only[zTa,zNF,PX.toPM,zC9]
theorem zJY{r:Nat}{pre:zA4}{i:Nat}:∀ {qs:List PV} {c:Nat} {k:PX},(zHq r pre i c qs k).toPM=zD4 r pre i c qs k.toPM
 |[],_,_=>rfl|q::qs,c,k=>by simp only[zHq,zD4,zC9,PX.toPM,zJY]
theorem zFu{r:Nat}{pre:zA4}{i:Nat}:∀ {qs:List PV} {c:Nat} {k:PM},(qs.all fun q=>!q.heavy)=true->zD4 r pre i c qs k=k
 |[],_,_,_=>rfl|q::qs,c,k,h=>by
  simp only[cO,bb,bD] at h;simp only[zD4,h.1,cond_false];exact zFu h.2
theorem zSQ{r:Nat}{pre:zA4}{i c:Nat}{qs:List PV}{k:PX}:(zTD r pre i c qs k).toPM=zD4 r pre i c qs k.toPM:=by
 simp only[zTD,PX.toPM,zJY]
 cases h:qs.all fun q=>!q.heavy with
 |false=>rfl|true=>exact(zFu h).symm
end
def zE0(res:PV->(PV->List (Nat×zA4)->PX)->PX):List PV->(List PV->List (Nat×zA4)->PX)->PX
 |[],k=>k [] []|p::ps,k=>res p fun q l=>zE0 res ps fun qs m=>k (q::qs) (l++m)
def zDP(hb:Nat):Nat->PV->(PV->List (Nat×zA4)->PX)->PX
 |0,_,_=>.fail
 | n + 1,p,k =>
  match p with
  |.addr r pre i c sh=>bif ble hb r then k p [] else .deep r pre fun q=>match zBm q with
   | some xs => .pick xs[i]? fun x=>match sh with
     |some m=>.test (ble (c+m) x.cells.length) (.test x.isAgg (zDP hb n (.agg ((x.cells.drop c).take m)) fun q l=>k (.ref q) ((r,pre)::l)))
     |none=>.pick x.cells[c]? fun q=>.test q.oneCell (zDP hb n q fun q l=>k (.ref q) ((r,pre)::l))
   |none=>.fail
  |.bor r pre _ lo m=>bif ble hb r then k p [] else .deep r pre fun q=>match q with
   |.own _ xs=>.test (ble (lo+m) xs.length) (.same (.sl (zAt ((xs.drop lo).take m))) fun p=>k p [(r,pre)])
   |_=>.fail
  |.bsl r pre i c sz ag m=>bif ble hb r then k p [] else .deep r pre fun q=>match zBm q with
   |some xs=>.pick xs[i]? fun x=>.test (zCA ag sz m ((x.cells.drop c).take (m*sz))) (.test (zBE x.cells).isEmpty (.same (.sl (zCz ag sz m (zAt ((x.cells.drop c).take (m*sz))))) fun p=>k p [(r,pre)]))
   |none=>.fail
  |.bmap r pre=>bif ble hb r then k p [] else .deep r pre fun q=>match q with
   |.omap es=>k (.map es) [(r,pre)]|_=>.fail
  |.agg cs=>.choose (p.ways).isEmpty (.same (zA2 p) fun q=>k q []) (zE0 (zDP hb n) cs fun qs l=>k (.agg qs) l)
  |.func f a b=>.choose (p.ways).isEmpty (k p []) (zE0 (zDP hb n) a fun as l=>zE0 (zDP hb n) b fun bs m=>k (.func f as bs) (l++m))
  |.ref q=>.choose (q.ways).isEmpty (k p []) (zDP hb n q fun q l=>k (.ref q) l)
  |.bad=>k .bad []|p=>.test (p.ways.all (fun w=>ble hb w.1)) (.same (zA2 p) fun q=>k q [])
def zV9(p:PV)(k:PV->List (Nat×zA4)->PX):PX:=zDP zAa depth p k
theorem zIq{res:PV->(PV->List (Nat×zA4)->PX)->PX}{res':PV->(PV->List (Nat×zA4)->PM)->PM}(h:∀ p k,(res p k).toPM=res' p fun q l=>(k q l).toPM):∀ {ps:List PV} {k:List PV->List (Nat×zA4)->PX},(zE0 res ps k).toPM=zED res' ps fun q l=>(k q l).toPM
 |[],_=>rfl|p::ps,k=>by simp only[zE0,zED,h,zIq h]
theorem zKo{hb:Nat}:∀ {n:Nat} {p:PV} {k:PV->List (Nat×zA4)->PX},(zDP hb n p k).toPM=resolve hb n p fun q l=>(k q l).toPM
 |0,_,_=>rfl
 | n + 1,p,k=>by
  have ih:∀ (p:PV) (k:PV->List (Nat×zA4)->PX),(zDP hb n p k).toPM=resolve hb n p fun q l=>(k q l).toPM:=fun p k=>zKo;cases p<;>simp only[zDP,resolve,zC9,PX.toPM,zDu,ih,zIq ih]
  ·congr 1;congr 1;funext q
   cases zBm q with
   |none=>rfl
   | some xs =>
    simp only[PX.toPM];rename_i r pre i c sh
    cases xs[i]? with
    |none=>rfl
    | some x =>
     cases sh with
     |some m=>simp only[PX.toPM,zDu,ih]|none=>
      simp only[PX.toPM,ih]
      cases x.cells[c]? with
      |none=>rfl|some q=>simp only[PX.toPM,zBJ,ih]
  ·congr 1;congr 1;funext q;cases q<;>rfl
  ·congr 1;congr 1;funext q
   cases zBm q with
   |none=>rfl|some xs=>
    simp only[PX.toPM];rename_i r pre i c sz ag m
    cases xs[i]? with
    |none=>rfl|some x=>simp only[PX.toPM,zDu]
  ·congr 1;congr 1;funext q;cases q<;>rfl
theorem zTO{p:PV}{k:PV->List (Nat×zA4)->PX}:(zV9 p k).toPM=zQW p fun q l=>(k q l).toPM:=zKo
def zPO(hb:Nat):Nat->PV->(PV->PX)->PX
 |0,_,_=>.fail|n+1,p,k=>match p.ways.find? (fun w=>blt w.1 hb) with
  |none=>.same p k|some (r,pre)=>.deep r pre fun q=>.frzp r pre (p.mapW (inl r pre q)) fun p=>zPO hb n p k
theorem zFA{hb:Nat}:∀ {n:Nat} {p:PV} {k:PV->PX},(zPO hb n p k).toPM=zLy hb n p fun q=>(k q).toPM
 |0,_,_=>rfl|n+1,p,k=>by
  simp only[zPO,zLy]
  cases p.ways.find? (fun w=>blt w.1 hb) with
  |none=>rfl|some w=>simp only[PX.toPM,zFA]
def zMo(p:PV)(k:List PV->PX):PX :=
 match p with
 |.nils _=>k []|.nn=>k []|.sl xs=>k xs|.bor r pre z lo n=>.deep r pre fun q=>match q with
  |.own _ xs=>.test (ble (lo+n) xs.length) (.sames ((xs.drop lo).take n) k)|_=>.fail
 |.bsl r pre i c sz ag n=>.cells r pre i c (n*sz) fun _ cs=>.test (zCA ag sz n cs) (.test (cs.all (fun q=>q.plain0)) (.sames (zCz ag sz n cs) k))
 |_=>.fail
theorem zK4{p:PV}{k:List PV->PX}:(zMo p k).toPM=zHM p fun l=>(k l).toPM:=by
 cases p<;>simp only[zMo,zHM,PX.toPM,zDu];congr 1;funext q;cases q<;>rfl
section
variable (P:Program) (H:zBh)
def zGk:LN->List PV->(List (Bool×PV)->PX)->PX
 |_,[],k=>k []
 | ms,p::ps,k =>
  match ms.headD 0,p with
  |2,.bor r pre _ 0 n=>.deep r pre fun q=>match q with
   |.own sz xs=>.test (ble n xs.length) (.wnode r pre .bad (.same (.own sz ((xs.drop 0).take n)) fun o=>zGk ms.tail ps fun as=>k ((true,o)::as)))
   |_=>.fail
  |_,p=>zGk ms.tail ps fun as=>k ((false,p)::as)
def zDF:LN->List (Bool×PV)->(List Arg->PX)->PX
 |_,[],k=>k []|ms,(true,p)::ps,k=>zDF ms.tail ps fun as=>k ({p:=p}::as)
 |ms,(false,p)::ps,k=>
  bif beq (ms.headD 0) 1 then zDF ms.tail ps fun as=>k ({p:=p,byref:=true}::as)
  else zV9 p fun q l=>zDF ms.tail ps fun as=>k ({p:=q,shared:=l}::as)
def zFv:LN->List (Bool×PV)->(List Arg->PX)->PX
 |_,[],k=>k []|ms,(true,p)::ps,k=>zFv ms.tail ps fun as=>k ({p:=p}::as)
 |ms,(false,p)::ps,k=>
  bif beq (ms.headD 0) 1 then zFv ms.tail ps fun as=>k ({p:=p,byref:=true}::as)
  else zPO zAa zDp p fun q=>zFv ms.tail ps fun as=>k ({p:=q}::as)
def zSC:LN->(List PV->PX)->PX
 |[],k=>k []|r::rs,k=>.get r fun p=>zSC rs fun ps=>k (p::ps)
def zU2:LN->List PV->List PV->PX->PX
 |r::rs,o::os,p::ps,k=>.test (zGR o p) (.same p fun p=>.wnode r [] p (zU2 rs os ps k))
 |[],[],[],k=>k|_,_,_,_=>.fail
def zP2:Nat->LN->(LN->PX)->PX
 |0,R,k=>k R|n+1,R,k=>zSC R fun ts=>let R':=(R++ts.flatMap zNX).eraseDups;bif beq R'.length R.length then k R else zP2 n R' k
def zHL:LN->PX->PX
 |[],k=>k|r::rs,k=>.killEx r [] (zHL rs k)
def zMB:List Bool->PX->PX->PX
 |[a,b,c],x,y=>.choose a x (.choose b (.choose c x y) y)|_,_,y=>y
theorem zM0{a b c:Bool}{x y:PX}:(zMB [a,b,c] x y).toPM=bif a||b&&c then x.toPM else y.toPM:=by
 cases a<;>cases b<;>cases c<;>rfl
def zPS (d:ON) (f:FuncId) (as:List Arg) (again:PX):PX :=
 .nats (zPL as) fun R0=>zP2 3 R0 fun R=>
 bif zHe R&&R.all (fun r=>blt r zAa)&&ble R.length 1000&&ble as.length 1000&&(as.flatMap (·.shared)).all (fun x=>!R.contains x.1) then
  zSC R fun hid=>.sames (as.map fun a=>if a.byref then zGZ (zDL R) a.p else a.p) fun args=>.call f args (hid.map (zGZ (zDL R))) fun v hO=>
   zMB [(as.flatMap (·.shared)).isEmpty,v.free,zEy hO]
    (zHL R<|zU2 R hid (hO.map (zGZ (zCs R))) (zFi d (zGZ (zCs R) v)))
    again
 else .fail
def zRj(d:ON)(f:FuncId)(args:List PV):PX :=
 .nats (H f).mode fun ms=>zGk ms args fun bs=>zDF ms bs fun as=>zPS d f as (zFv ms bs fun as=>zPS d f as .fail)
theorem zF5:∀ {ps:List PV} {ms:LN} {k:List (Bool×PV)->PX},(zGk ms ps k).toPM=zEc ms ps fun as=>(k as).toPM
 |[],_,_=>rfl
 | p :: ps,ms,k=>by
  unfold zGk zEc;generalize ms.headD 0=m;split
  ·simp only[PX.toPM];congr 1;funext q;cases q<;>first|rfl|skip
   simp only[PX.toPM,zF5]
  ·simp only[zF5]
theorem zFj:∀ {ps:List (Bool×PV)} {ms:LN} {k:List Arg->PX},(zDF ms ps k).toPM=zCE ms ps fun as=>(k as).toPM
 |[],_,_=>rfl|(true,p)::ps,ms,k=>by simp only[zDF,zCE,zFj]|(false,p)::ps,ms,k=>by simp only[zDF,zCE,zC9,zTO,zFj]
theorem zGX:∀ {ps:List (Bool×PV)} {ms:LN} {k:List Arg->PX},(zFv ms ps k).toPM=zEr ms ps fun as=>(k as).toPM
 |[],_,_=>rfl|(true,p)::ps,ms,k=>by simp only[zFv,zEr,zGX]|(false,p)::ps,ms,k=>by simp only[zFv,zEr,zC9,zFA,zGX]
theorem zLx:∀ {rs:LN} {k:List PV->PX},(zSC rs k).toPM=zOn rs fun ps=>(k ps).toPM
 |[],_=>rfl|r::rs,k=>by simp only[zSC,zOn,PX.toPM,zLx]
theorem zPn:∀ {rs:LN} {os ps:List PV} {k:PX},(zU2 rs os ps k).toPM=zOH rs os ps k.toPM
 |[],[],[],_=>rfl|r::rs,o::os,p::ps,k=>by simp only[zU2,zOH,PX.toPM,zPn]|[],[],_::_,_=>rfl|[],_::_,_,_=>rfl|_::_,[],_,_=>rfl|_::_,_::_,[],_=>rfl
theorem zNM:∀ {n:Nat} {R:LN} {k:LN->PX},(zP2 n R k).toPM=zLs n R fun R=>(k R).toPM
 |0,_,_=>rfl|n+1,R,k=>by simp only[zP2,zLs,zLx,zC9,zNM]
theorem zIz:∀ {rs:LN} {k:PX},(zHL rs k).toPM=zLm rs k.toPM
 |[],_=>rfl|r::rs,k=>by simp only[zHL,zLm,PX.toPM,zIz]
theorem zRB{d:ON}{f:FuncId}{as:List Arg}{again:PX}:(zPS d f as again).toPM=zTi d f as again.toPM:=by
 simp only[zPS,zTi,zNM,zC9,zLx,PX.toPM,zM0,zIz,zPn,zEW]
theorem zSO{d:ON}{f:FuncId}{args:List PV}:(zRj H d f args).toPM=zOK H d f args:=by
 simp only[zRj,zOK,zF5,zFj,zRB,zGX,PX.toPM]
def zSZ(d:ON)(args:List Operand)(g:PV):PX :=
 match g with
 |.func g first caps=>zQj args fun as=>.pure d g (first++as++caps) (zRj H d g (first++as++caps))
 |_=>.fail
theorem zTH{d:ON}{args:List Operand}{g:PV}:(zSZ H d args g).toPM=zVf H d args g:=by
 cases g<;>first|rfl|skip
 simp only[zSZ,zVf,zIN,PX.toPM,zSO]
def zOO (d:ON) (sz:Nat) (base:PV) (ys:List PV):PX :=
 .test (ys.all (fun y=>beq y.cells.length sz&&y.cells.all fun q=>q.oneCell)) (.test (zBE ys).isEmpty (
 match base with
 | .bor r pre z lo n => .deep r pre fun q=>match q with
  | .own s xs =>
   .test (beq s sz) (.test (ble (lo+n) xs.length) (.test (ble (xs.length+ys.length) zAJ) (
    .choose (beq (lo+n) xs.length) (.test (beq lo 0) (.wnode r pre .bad (zGG d (.own sz (xs++ys))))) (.emb (zLR d r pre z lo n s xs ys)))))
  |_=>.fail
 |.nils _=>.test (ble ys.length zAJ) (zGG d (.own sz ys))|_=>.fail))
theorem zQG{d:ON}{sz:Nat}{base:PV}{ys:List PV}:(zOO d sz base ys).toPM=zL4 d sz base ys:=by
 cases base<;>simp only[zOO,zL4,PX.toPM,zDu,zBH];congr 1;congr 1;congr 1;funext q;cases q<;>first|rfl|skip
 simp only[PX.toPM,zBH]
def zWq(x:Operand)(k:List PV->PX):PX :=
 match x with
 |.tmp t=>.get t fun p=>match p with
  |.own _ xs=>.set t .bad (k xs)|_=>.view t fun p=>zMo p fun xs=>.test (xs.all (fun x=>x.plain)) (k xs)
 |x=>zHc x fun p=>zMo p fun xs=>.test (xs.all (fun x=>x.plain)) (k xs)
theorem zVw{x:Operand}{k:List PV->PX}:(zWq x k).toPM=zOp x fun l=>(k l).toPM:=by
 cases x<;>simp only[zWq,zOp,PX.toPM,zCm,zK4,zBJ];congr 1;funext p;cases p<;>first|rfl|simp only[PX.toPM,zK4,zBJ]
def zMs(d:ON)(b:Builtin)(ts:List TypeId)(args:List Operand):PX :=
 match b,args,ts with
 |.len,[x],t::_=>zHc x fun p=>match P.underlying t with
  |some (.array n _)=>zGG d (.int .i64 n)|some (.slice _)=>.num (lenOf p) fun n=>zGG d (.int .i64 n)
  |_=>.fail
 |.append,[x,y],[t,t2]=>bif (zB5 P t2).isNone then .fail else match(zB5 P t).bind (szT P),(zB5 P t).bind (zIn P),(zB5 P t).bind (zCS P) with
  |some sz,some by_,some z=>if by_<=16384/\z.cells.length=sz then zHc x fun base=>zWq y fun ys=>zOO d sz base ys else .fail
  |_,_,_=>.fail
 |.max,xs,_=>zQj xs fun ps=>.pick (zYE ps) fun v=>zGG d v
 |.min,xs,_=>zQj xs fun ps=>.pick (zYm ps) fun v=>zGG d v
 |b,args,ts=>.emb (zBB P d b ts args)
theorem zOt{d:ON}{b:Builtin}{ts:List TypeId}{args:List Operand}:(zMs P d b ts args).toPM=zBB P d b ts args:=by
 unfold zMs;split
 ·simp only[zCm,zBB];congr 1;funext p;generalize P.underlying _=u
  cases u with
  |none=>rfl|some u=>
   cases u<;>first|rfl|exact zBH|skip
   simp only[PX.toPM,zBH];cases lenOf p<;>simp only[PX.toPM,zBH]
 ·simp only[zBB,zC9];congr 1;generalize (zB5 P _).bind (szT P)=a1;generalize (zB5 P _).bind (zIn P)=a2;generalize (zB5 P _).bind (zCS P)=a3;cases a1<;>cases a2<;>cases a3<;>first|rfl|simp only[zP6,zCm,zVw,zQG,PX.toPM]
 ·simp only[zBB,zIN,PX.toPM,zBH];congr 1;funext ps;cases zYE ps<;>simp only[PX.toPM,zBH]
 ·simp only[zBB,zIN,PX.toPM,zBH];congr 1;funext ps;cases zYm ps<;>simp only[PX.toPM,zBH]
 ·rfl
end
end Go.Eng
namespace Go.Eng
open Go
section
variable (P:Program) (H:zBh)
def zXR{α:Type}(x:Option α)(k:α->PX):PX :=
 match x with
 |some a=>k a|none=>.fail
theorem zKk{α:Type}{x:Option α}{k:α->PX}:(zXR x k).toPM=zJa x fun a=>(k a).toPM:=by cases x<;>rfl
theorem zJh{x:Option PV}{k:PV->PX}:(PX.pick x k).toPM=zJa x fun a=>(k a).toPM:=by cases x<;>rfl
def zPQ(p:PV)(k:PV->PX)(k2:PX):PX :=
 match p with
 |.bor r pre _ lo n=>.deep r pre fun q=>match q with
  |.own sz xs=>.choose (beq lo 0&&beq n xs.length) (.wnode r pre .bad (k (.own sz xs))) k2|_=>k2
 |.bmap r pre=>.deep r pre fun q=>match q with
  |.omap es=>.wnode r pre .bad (k (.omap es))|_=>k2
 |p=>k p
theorem zMX{p:PV}{k:PV->PX}{k2:PX}:(zPQ p k k2).toPM=zN0 p (fun q=>(k q).toPM) k2.toPM:=by
 cases p<;>simp only[zPQ,zN0,PX.toPM]
 all_goals
  congr 1;funext q;cases q<;>rfl
def zUr(p:PV)(k:PV->PX):PX:=zPQ p k (zPO zAa zDp p k)
theorem zPd{p:PV}{k:PV->PX}:(zUr p k).toPM=zM6 p fun q=>(k q).toPM:=by simp only[zUr,zM6,zMX,zFA]
def zP1:List PV->(List PV->PX)->PX
 |[],k=>k []|p::ps,k=>zPQ p (fun q=>zP1 ps fun qs=>k (q::qs)) .fail
theorem zNt:∀ {ps:List PV} {k:List PV->PX},(zP1 ps k).toPM=zJs ps fun qs=>(k qs).toPM
 |[],_=>rfl|p::ps,k=>by simp only[zP1,zJs,zMX,zNt,PX.toPM]
def zRo:PV->Bool
 |.bor ..|.bmap ..|.bsl .. => true|_=>false
def zJi(tk:Bool)(p:PV)(k:PV->PX):PX :=
 match p with
 |.agg cs=>bif tk then zP1 cs fun cs=>k (.agg cs) else .choose (cs.any zRo) (zPO zAa zDp p k) (k p)
 |.bsl .. => zPO zAa zDp p k|.bor ..|.bmap .. => bif tk then zUr p k else zPO zAa zDp p k|p=>k p
theorem zH8{tk:Bool}{p:PV}{k:PV->PX}:(zJi tk p k).toPM=zF1 tk p fun q=>(k q).toPM:=by
 cases p<;>simp only[zJi,zF1,zC9,zNt,zPd,zFA,PX.toPM];rfl
def zIS(tk:Bool):List PV->(List PV->PX)->PX
 |[],k=>k []|p::ps,k=>zJi tk p fun q=>zIS tk ps fun qs=>k (q::qs)
theorem zJZ{tk:Bool}:∀ {ps:List PV} {k:List PV->PX},(zIS tk ps k).toPM=zGq tk ps fun qs=>(k qs).toPM
 |[],_=>rfl|p::ps,k=>by simp only[zIS,zGq,zH8,zJZ]
def zOV(r:Nat)(pre:zA4)(i c:Nat)(v:PV):PX :=
 .test (!v.heavy||v.ways.all (fun w=>!(zAT r pre w.1 w.2&&blt pre.length w.2.length))) (.test (v.cells.all (fun q=>q.oneCell)) (.test (!v.cells.isEmpty) (zTD r pre i c v.cells (.wcells r pre i c v.cells .ok))))
theorem zNh{r:Nat}{pre:zA4}{i c:Nat}{v:PV}:(zOV r pre i c v).toPM=zIs r pre i c v:=by
 simp only[zOV,zIs,PX.toPM,zSQ,zDu]
def zJo(tk:Bool)(r:Nat)(pre:zA4)(v:PV)(k:PV->PX):PX :=
 bif pre.isEmpty && !tk then .view r fun q=>(match q with|.addr .. => k v|_=>zJi tk v k) else zJi tk v k
theorem zNL{tk:Bool}{r:Nat}{pre:zA4}{v:PV}{k:PV->PX}:(zJo tk r pre v k).toPM=zIQ tk r pre v fun q=>(k q).toPM:=by
 simp only[zJo,zIQ,zC9,PX.toPM,zH8];congr 1;congr 1;funext q;cases q<;>first|rfl|exact zH8
def zKs(tk:Bool)(r:Nat)(pre:zA4)(i c:Nat)(v:PV):PX :=
 match zRE r pre i c v with
 |some m=>.deep r (pre++[(i,c)]) fun q=>match q with
  |.own s xs=>.test (ble m xs.length) (.wnode r (pre++[(i,c)]) .bad (.same (.own s ((xs.drop 0).take m)) fun v=>zOV r pre i c v))
  |_=>.fail
 |none=>zJo tk r pre v fun v=>.same v fun v=>zOV r pre i c v
theorem zK5{tk:Bool}{r:Nat}{pre:zA4}{i c:Nat}{v:PV}:(zKs tk r pre i c v).toPM=zIE tk r pre i c v:=by
 simp only[zKs,zIE]
 cases zRE r pre i c v with
 |none=>simp only[zNL,PX.toPM,zNh]|some m=>
  simp only[PX.toPM];congr 1;funext q;cases q<;>first|rfl|simp only[PX.toPM,zNh]
def zRS(fz tk:Bool)(t:TypeId)(a x:Operand):PX :=
 zHc a fun pa=>match pa,x with
 |.addr r pre i c _,.const (.slice none 0 0)=>zXR ((zB5 P t).bind (szT P)) fun s=>if szT P t=some 1 then zKs tk r pre i c (.own s []) else .fail
 |pa,x=>match pa,shT P t,szT P t with
 |.addr r pre i c _,some sh,some n=>(bif fz&&tk then zHc x else zKH x) fun v=>
  .test (beq v.cells.length n) (.test (v.isAgg==sh.isSome) (zKs (tk && !fz) r pre i c (bif fz && !tk then zA2 v else v)))
 |_,_,_=>.fail
theorem zSJ{fz tk:Bool}{t:TypeId}{a x:Operand}:(zRS P fz tk t a x).toPM=zO9 P fz tk t a x:=by
 simp only[zRS,zO9,zCm];congr 1;funext pa
 have key:∀ (sh:Option ON) (n:ON),(match pa,sh,n with
   |.addr r pre i c _,some sh,some n=>(bif fz&&tk then zHc x else zKH x) fun v=>PX.test (beq v.cells.length n) (.test (v.isAgg==sh.isSome) (zKs (tk && !fz) r pre i c (bif fz && !tk then zA2 v else v)))
   |_,_,_=>PX.fail).toPM=(match pa,sh,n with
   |.addr r pre i c _,some sh,some n=>(bif fz&&tk then opd x else zOh x) fun v=>bif beq v.cells.length n&&v.isAgg==sh.isSome then zIE (tk && !fz) r pre i c (bif fz && !tk then zA2 v else v) else .fail
   |_,_,_=>PM.fail):=by
  intro sh n;cases pa<;>first|rfl|skip
  cases sh<;>cases n<;>first|rfl|skip
  cases hc:(fz&&tk)<;>simp only[cond_true,cond_false,zCm,zFC,PX.toPM,zK5,zDu]
 split
 ·simp only[zKk,zP6,zK5,PX.toPM]
 ·rename_i h;rw[key];cases pa<;>first|rfl|skip
  cases x<;>first|rfl|skip
  rename_i v;cases v<;>first|rfl|skip
  rename_i a n m;cases a<;>cases n<;>cases m<;>first|rfl|exact(h _ _ _ _ _ rfl rfl).elim
def zHB(d:ON)(p:PV):PX :=
 match d,p with
 | some d',.bor r [] z lo n=>if r=d' then .get r fun root=>match root with
   |.own sz xs=>.test (ble (lo+n) xs.length) (.kill r [] (.same (.own sz ((xs.drop lo).take n)) fun o=>.set r o .ok))
   |_=>.fail
  else zGG d p
 |_,_=>zGG d p
theorem zKA{d:ON}{p:PV}:(zHB d p).toPM=zFh d p:=by
 unfold zHB zFh;split
 ·simp only[zP6,zBH,PX.toPM];congr 1;congr 1;funext q;cases q<;>rfl
 ·rename_i h;split
  ·exact(h _ _ _ _ _ rfl rfl).elim
  ·exact zBH
def zKE(tk nl:Bool)(d:ON)(t:TypeId)(x:Operand):PX :=
 match x with
 |.const (.slice none 0 0)=>.emb (zGn P tk nl d t x)|x=>zKH x fun p=>bif tk then zUr p (zHB d) else zHB d p
theorem zMM{tk nl:Bool}{d:ON}{t:TypeId}{x:Operand}:(zKE P tk nl d t x).toPM=zGn P tk nl d t x:=by
 unfold zKE;split
 ·rfl
 ·rename_i h;unfold zGn;split
  ·exact(h rfl).elim
  ·simp only[zFC,zC9,zPd,zKA]
def zTk(d:ON)(x:Operand):PX:=zKH x fun p=>zPO zAa zDp p (zHB d)
theorem zSk{d:ON}{x:Operand}:(zTk d x).toPM=zVj d x:=by
 simp only[zTk,zVj,zFC,zFA,zKA]
def zS0(d:ON)(t:TypeId)(x:Operand):PX:=zKH x fun p=>match shT P t,szT P t with
 |some sh,some n=>.test (decide (p.cells.length=n)) (.test (decide (p.isAgg=sh.isSome)) (.test p.whole (zGG d (.box p))))|_,_=>.fail
theorem zSX{d:ON}{t:TypeId}{x:Operand}:(zS0 P d t x).toPM=zVK P d t x:=by
 simp only[zS0,zVK,zFC];congr 1;funext p;cases shT P t<;>cases szT P t<;>first|rfl|skip
 simp only[PX.toPM,zBH,zBJ,bb,decide_eq_true_eq];split<;>split<;>(try split)<;>simp_all
def zWJ(nz:ON)(x:Operand)(k:PV->PX):PX :=
 match nz,x with
 |some s,.const (.slice none 0 0)=>k (.own s [])|_,x=>zKH x k
def zPg(nz:ON):List Operand->(List PV->PX)->PX
 |[],k=>k []|x::xs,k=>zWJ nz x fun p=>zPg nz xs fun ps=>k (p::ps)
theorem zVd{nz:ON}{x:Operand}{k:PV->PX}:(zWJ nz x k).toPM=zYS nz x fun p=>(k p).toPM:=by
 unfold zWJ zYS;split
 ·rfl
 ·rename_i h;rw[zFC];split
  ·exact(h _ rfl rfl).elim
  ·rfl
theorem zND{nz:ON}:∀ {xs:List Operand} {k:List PV->PX},(zPg nz xs k).toPM=zQH nz xs fun p=>(k p).toPM
 |[],_=>rfl|x::xs,k=>by simp only[zPg,zQH,zVd,zND]
def zFo (tk:Bool) (d:ON) (t:TypeId) (n:Nat) (ps:List (Nat×Operand)):PX :=
 match zB5 P t with
 | some e=>match szT P e,zCS P e with
  | some s,some z=>if n*s<=65536&&beq z.cells.length s&&ps.all (fun x=>x.1<n) then zPg (zXY (zCS P e)) (ps.map (·.2)) fun vs=>zIS tk vs fun vs =>
    .sames vs fun vs=>.test (zBE vs).isEmpty (.test (vs.all (fun v=>v.cells.length=s&&v.isAgg=z.isAgg&&v.whole)) (zGG d (.own s (zM1 n z ((ps.map (·.1)).zip vs)))))
   else .fail
  |_,_=>.fail
 |none=>.fail
theorem zII{tk:Bool}{d:ON}{t:TypeId}{n:Nat}{ps:List (Nat×Operand)}:(zFo P tk d t n ps).toPM=zD3 P tk d t n ps:=by
 simp only[zFo,zD3]
 cases zB5 P t with
 |none=>rfl|some e=>
  simp only;generalize szT P e=a1;generalize zCS P e=a2;cases a1<;>cases a2<;>first|rfl|skip
  simp only[zP6,zND,zJZ,PX.toPM,zBH];congr 1;congr 1;funext vs;congr 1;funext vs
  cases (zBE vs).isEmpty with
  |false=>rfl|true=>simp only[cond_true,cR,zBJ,if_true]
def zP4(d:ON)(sh:ON)(p:PV):PX :=
 match p with
 |.ref q=>.test (decide (q.isAgg=sh.isSome)) (.test (decide (q.cells.length=sh.getD 1)) (zGG d q))|.addr r pre i c _=>zTa r pre i c sh (zGG d)|_=>.fail
theorem zNQ{d:ON}{sh:ON}{p:PV}:(zP4 d sh p).toPM=zQL d sh p:=by
 cases p<;>simp only[zP4,zQL,PX.toPM,zL6,zBH];simp only[zBJ,bb,decide_eq_true_eq];split<;>split<;>simp_all
def zOF(tk:Bool)(d:ON)(t:TypeId)(a:Operand):PX:=zXR (shT P t) fun sh=>zHc a fun p=>
 bif tk then(match p with
  |.addr r pre i c _=>zTa r pre i c sh fun v=>zPO zAa zDp v (zGG d)
  |p=>zP4 d sh p) else zP4 d sh p
theorem zQN{tk:Bool}{d:ON}{t:TypeId}{a:Operand}:(zOF P tk d t a).toPM=zPj P tk d t a:=by
 simp only[zOF,zPj,zKk,zCm,zC9,zNQ];congr 1;funext sh;congr 1;funext p;congr 1;cases p<;>simp only[zNQ,zL6,zFA,zBH]
def zTW(d:ON)(op:BinOp)(t:TypeId)(x y:Operand):PX:=zHc x fun p=>zHc y fun q=>.pick (zHT P op t p q) (zGG d)
theorem zSF{d:ON}{op:BinOp}{t:TypeId}{x y:Operand}:(zTW P d op t x y).toPM=zUE P d op t x y:=by
 simp only[zTW,zUE,zCm,zJh,zBH]
def zZx(d:ON)(op:UnOp)(p:PV):PX :=
 match op,p with
 |.not,.bool b=>zGG d (.bool !b)|.neg,.int k n=>zGG d (.int k (k.wrap (0-n)))|_,_=>.fail
theorem zWp{d:ON}{op:UnOp}{p:PV}:(zZx d op p).toPM=unV d op p:=by
 cases op<;>cases p<;>first|rfl|exact zBH
def zSg(d:ON)(t:TypeId)(p:PV):PX :=
 match P.underlying t,p with
 |some (.int k),.int _ n=>zGG d (.int k (k.wrap n))|_,_=>.fail
theorem zSS{d:ON}{t:TypeId}{p:PV}:(zSg P d t p).toPM=zSr P d t p:=by
 simp only[zSg,zSr]
 cases P.underlying t with
 |none=>rfl|some u=>cases u<;>cases p<;>first|rfl|exact zBH
def zFU(d:ON)(t:TypeId)(l c:Operand):PX :=
 zHc l fun l=>zGb l fun l=>zHc c fun c=>zGb c fun c=>match zB5 P t with
 |some e=>match zCS P e,szT P e,zIn P e with
  |some z,some s,some b=>.test (decide (l<=c)) (.test (decide (c<=zAJ)) (.test (decide (b<=16384/\z.cells.length=s)) (zGG d (.own s (replicate l z)))))|_,_,_=>.fail
 |none=>.fail
theorem zKC{d:ON}{t:TypeId}{l c:Operand}:(zFU P d t l c).toPM=zFg P d t l c:=by
 simp only[zFU,zFg,zCm,zES];congr 1;funext p;congr 1;funext l;congr 1;funext q;congr 1;funext c
 cases zB5 P t with
 |none=>rfl|some e=>
  simp only;generalize zCS P e=a1;generalize szT P e=a2;generalize zIn P e=a3;cases a1<;>cases a2<;>cases a3<;>first|rfl|skip
  simp only[PX.toPM,zBH,zBJ,decide_eq_true_eq];by_cases h1:l<=c<;>by_cases h2:c<=zAJ<;>simp[h1,h2]
def zOC(d:ON)(n:Nat)(e:TypeId)(p:PV)(i:Nat):PX :=
 match szT P e,shT P e with
 |some s,some sh=>.test (decide (i<n)) (.pick (zBT p (i*s) sh) (zGG d))|_,_=>.fail
def zSj(d:ON)(e:TypeId)(p:PV)(i:Nat):PX :=
 match p with
 |.sl xs=>.pick (xs[i]?) fun x=>.test (decide (szT P e=some x.cells.length)) (zGG d (.ref x))
 |.bor r pre z lo n=>match shT P e with
  |some sh=>.test (decide (i<n)) (.test (decide (szT P e=some z)) (.num (some (lo+i)) fun j=>zGG d (.addr r pre j 0 sh)))
  |none=>.fail
 |.bsl r pre j c s ag n=>.test (decide (i<n)) (.test (decide (szT P e=some s)) (.num (some (c+i*s)) fun c=>zGG d (.addr r pre j c (if ag then some s else none))))
 |_=>.fail
theorem zQM{d:ON}{n:Nat}{e:TypeId}{p:PV}{i:Nat}:(zOC P d n e p i).toPM=zPR P d n e p i:=by
 simp only[zOC,zPR];generalize szT P e=a1;generalize shT P e=a2;cases a1<;>cases a2<;>first|rfl|skip
 simp only[PX.toPM,zJh,zBH,zBJ,decide_eq_true_eq]
theorem zTA{d:ON}{e:TypeId}{p:PV}{i:Nat}:(zSj P d e p i).toPM=zT3 P d e p i:=by
 cases p<;>simp only[zSj,zT3,PX.toPM,zJh,zBH]
 ·congr 1;funext x;simp only[zBJ,decide_eq_true_eq]
 ·cases shT P e with
  |none=>rfl|some sh=>
   simp only[PX.toPM,zBH,zBJ,decide_eq_true_eq];split<;>split<;>simp_all
 ·simp only[zBJ,decide_eq_true_eq];split<;>split<;>simp_all
def zFR(d:ON)(t:TypeId)(x i:Operand):PX :=
 zHc x fun p=>zHc i fun i=>zGb i fun i=>match P.underlying t with
 |some (.array n e)=>zOC P d n e p i|some (.slice e)=>zSj P d e p i|_=>.fail
theorem zJ3{d:ON}{t:TypeId}{x i:Operand}:(zFR P d t x i).toPM=zFc P d t x i:=by
 simp only[zFR,zFc,zCm,zES];congr 1;funext p;congr 1;funext q;congr 1;funext i
 cases P.underlying t with
 |none=>rfl|some u=>cases u<;>first|rfl|exact zQM P|exact zTA P
def zLI(d:ON)(t:TypeId)(x i:Operand):PX :=
 zHc x fun p=>zHc i fun i=>zGb i fun i=>match P.underlying t with
 |some (.array n e)=>match szT P e,shT P e with
  |some s,some sh=>.test (decide (i<n)) (.pick (sub p (i*s) sh) (zGG d))|_,_=>.fail
 |_=>.fail
theorem zOP{d:ON}{t:TypeId}{x i:Operand}:(zLI P d t x i).toPM=zLw P d t x i:=by
 simp only[zLI,zLw,zCm,zES];congr 1;funext p;congr 1;funext q;congr 1;funext i
 cases P.underlying t with
 |none=>rfl|some u=>
  cases u<;>first|rfl|skip
  rename_i n e;simp only;generalize szT P e=a1;generalize shT P e=a2;cases a1<;>cases a2<;>first|rfl|skip
  simp only[PX.toPM,zJh,zBH,zBJ,decide_eq_true_eq]
def zXQ(x:Option Operand)(n:Nat)(k:Nat->PX):PX :=
 match x with
 |some x=>zHc x fun p=>zGb p k
 |none=>k n
theorem zRn{x:Option Operand}{n:Nat}{k:Nat->PX}:(zXQ x n k).toPM=zT8 x n fun m=>(k m).toPM:=by
 cases x with
 |none=>rfl|some x=>simp only[zXQ,zT8,zCm,zES]
def zOy (d:ON) (s:Nat) (p:PV) (l h:Nat):PX :=
 match p with
 |.sl xs=>.test (ble l h) (.test (ble h xs.length) (.test (xs.all (fun x=>beq x.cells.length s)) (zGG d (.sl ((xs.drop l).take (h-l))))))
 | .bor r pre z a n =>
  .test (beq z s) (.test (ble l h) (
   .choose (ble h n) (.choose (beq l 0||blt l h) (zGG d (.bor r pre z (a+l) (h-l))) (zGG d (.sl [])))
   (.deep r pre fun q=>match q with
    |.own _ xs=>.test (ble (a+h) xs.length) (.choose (beq l 0||blt l h) (zGG d (.bor r pre z (a+l) (h-l))) (zGG d (.sl [])))|_=>.fail)))
 |_=>.fail
theorem zVO{d:ON}{b:Bool}{p q:PV}:put d (bif b then p else q)=bif b then put d p else put d q:=by cases b<;>rfl
theorem zRb{d:ON}{s:Nat}{p:PV}{l h:Nat}:(zOy d s p l h).toPM=zO1 d s p l h:=by
 cases p<;>simp only[zOy,zO1,PX.toPM,zBH,zDu,zVO];congr 1;congr 1;congr 1;congr 1;funext q;cases q<;>first|rfl|simp only[PX.toPM,zBH]
def zOA(d:ON)(n s:Nat)(sh:ON)(p:PV)(l h:Nat):PX :=
 .test (ble l h) (.test (ble h n) (.test (beq l 0||blt l n) (
  match p with
  |.addr r pre i c _=>.num (some (h-l)) fun m=>zGG d (.bsl r pre i (c+l*s) s sh.isSome m)
  |.ref (.agg cs)=>.test (ble (n*s) cs.length) (.test (zCA sh.isSome s (h-l) ((cs.drop (l*s)).take ((h-l)*s))) (.test (zBE cs).isEmpty (zGG d (.sl (zCz sh.isSome s (h-l) ((cs.drop (l*s)).take ((h-l)*s)))))))|_=>.fail)))
theorem zQO{d:ON}{n s:Nat}{sh:ON}{p:PV}{l h:Nat}:(zOA d n s sh p l h).toPM=zTl d n s sh p l h:=by
 cases p<;>simp only[zOA,zTl,PX.toPM,zBH,zDu];rename_i q;cases q<;>simp only[PX.toPM,zBH,zDu]
def zRX(d:ON)(t:TypeId)(x:Operand)(lo hi mx:Option Operand):PX :=
 match mx with
 |some m=>.emb (zJj P d t x lo hi (some m))
 | none=>zHc x fun p=>match P.underlying t with
  |some (.array n e)=>match szT P e,shT P e with
   |some s,some sh=>zXQ hi n fun h=>zXQ lo 0 fun l=>zOA d n s sh p l h
   |_,_=>.fail
  |some (.slice e)=>match szT P e,lenOf p with
   |some s,some n=>zXQ hi n fun h=>zXQ lo 0 fun l=>zOy d s p l h
   |_,_=>.fail
  |_=>.fail
theorem zSx{d:ON}{t:TypeId}{x:Operand}{lo hi mx:Option Operand}:(zRX P d t x lo hi mx).toPM=zJj P d t x lo hi mx:=by
 cases mx with
 |some _=>rfl
 | none =>
  simp only[zRX,zJj,zCm];congr 1;funext p
  cases P.underlying t with
  |none=>rfl|some u=>
   cases u<;>first|rfl|skip
   ·rename_i e;simp only;generalize szT P e=a1;generalize lenOf p=a2;cases a1<;>cases a2<;>first|rfl|simp only[zRn,zRb]
   ·rename_i n e;simp only;generalize szT P e=a1;generalize shT P e=a2;cases a1<;>cases a2<;>first|rfl|simp only[zRn,zQO]
def zEN(es:List (PV×PV))(i:Nat):Option PV:=(es[i]?).map (·.2)
def zKa(d:ON)(kt:TypeId)(z key:PV)(ok:Bool)(es:List (PV×PV)):PX :=
 .idx (zCV P kt key es 0) fun x=>match x with
 |some i=>.pick (zEN es i) fun v=>.test v.lone (zFi d (if ok then .tup [v,.bool true] else v))
 |none=>zFi d (if ok then .tup [z,.bool false] else z)
theorem zLv{d:ON}{kt:TypeId}{z key:PV}{ok:Bool}{es:List (PV×PV)}:(zKa P d kt z key ok es).toPM=zJy P d kt z key ok es:=by
 simp only[zKa,zJy,PX.toPM]
 cases zCV P kt key es 0 with
 |none=>rfl
 | some x =>
  cases x with
  |none=>exact zEW|some i=>
   show(PX.pick (zEN es i) fun v=>.test v.lone (zFi d (if ok then .tup [v,.bool true] else v))).toPM=_
   rw[zJh];simp only[zEN,PX.toPM,zEW];cases es[i]?<;>rfl
def zR9(d:ON)(kt:TypeId)(z key:PV)(ok:Bool)(m:PV):PX :=
 match m with
 |.nilm=>zKa P d kt z key ok []|.map es=>zKa P d kt z key ok es|.bmap r pre=>.deep r pre fun q=>match q with
  |.omap es=>zKa P d kt z key ok es|_=>.fail
 |_=>.fail
theorem zTJ{d:ON}{kt:TypeId}{z key:PV}{ok:Bool}{m:PV}:(zR9 P d kt z key ok m).toPM=zVi P d kt z key ok m:=by
 cases m<;>first|rfl|exact zLv P|skip
 simp only[zR9,zVi,PX.toPM];congr 1;funext q;cases q<;>first|rfl|exact zLv P
def zKD(d:ON)(t:TypeId)(m x:Operand)(ok:Bool):PX :=
 zHc m fun m=>zHc x fun key=>match P.underlying t with
 |some (.map kt e)=>.test (zPp P 20 kt key) (zXR (zCS P e) fun z=>.test (zJ8 z).lone (zR9 P d kt (zJ8 z) key ok m))
 |_=>.fail
theorem zMT{d:ON}{t:TypeId}{m x:Operand}{ok:Bool}:(zKD P d t m x ok).toPM=zIT P d t m x ok:=by
 simp only[zKD,zIT,zCm];congr 1;funext p;congr 1;funext q
 cases P.underlying t with
 |none=>rfl|some u=>cases u<;>first|rfl|simp only[PX.toPM,zKk,zTJ]
def zWd(es:List (PV×PV))(k:List (PV×PV)->PX):PX := .same (.omap es) fun q=>match q with
 |.omap es=>k es|_=>.fail
def zOS(kt:TypeId)(key v m:PV):PX :=
 match m with
 | .bmap r pre => .test v.lone (.deep r pre fun q=>match q with
  |.omap es=>.idx (zCV P kt key es 0) fun x=>match x with
   |some i=>zWd (es.modify i fun _=>(key,v)) fun es=>.wnode r pre (.omap es) .ok
   |none=>zWd (es++[(key,v)]) fun es=>.wnode r pre (.omap es) .ok
  |_=>.fail)
 |_=>.fail
theorem zQF{kt:TypeId}{key v m:PV}:(zOS P kt key v m).toPM=zMF P kt key v m:=by
 cases m<;>first|rfl|skip
 simp only[zOS,zMF,PX.toPM];congr 1;congr 1;funext q;cases q<;>first|rfl|skip
 rename_i es;simp only[PX.toPM]
 cases zCV P kt key es 0 with
 |none=>rfl|some x=>cases x<;>rfl
def zGg(t:TypeId)(m x y:Operand):PX:=zHc m fun m=>zHc x fun key=>match P.underlying t with
 |some (.map kt _)=>.test (zPp P 20 kt key&&key.flat) (zKH y fun v=>zPO zAa zDp v fun v=>zOS P kt key (zA2 v) m)
 |_=>.fail
theorem zKl{t:TypeId}{m x y:Operand}:(zGg P t m x y).toPM=zFq P t m x y:=by
 simp only[zGg,zFq,zCm];congr 1;funext p;congr 1;funext q
 cases P.underlying t with
 |none=>rfl|some u=>cases u<;>first|rfl|simp only[PX.toPM,zFC,zFA,zQF]
def zOY(es:List (PV×PV))(i:Nat):Option PV:=(es[i]?).map (·.1)
def zOJ(d:ON)(kt:TypeId)(z key m:PV):PX :=
 match m with
 | .bmap r pre => .deep r pre fun q=>match q with
  |.omap es=>.idx (zCV P kt key es 0) fun x=>match x with
   |some i=>.pick (zEN es i) fun v=>.test v.lone (.wnode r pre (.omap (es.modify i fun _=>(key,v))) (zFi d (.tup [v,.int .i64 i])))
   |none=>.wnode r pre (.omap (es++[(key,z)])) (zFi d (.tup [z,.int .i64 es.length]))
  |_=>.fail
 |_=>.fail
theorem zQ4{d:ON}{kt:TypeId}{z key m:PV}:(zOJ P d kt z key m).toPM=zPw P d kt z key m:=by
 cases m<;>first|rfl|skip
 simp only[zOJ,zPw,PX.toPM];congr 1;funext q;cases q<;>first|rfl|skip
 rename_i es;simp only[PX.toPM]
 cases zCV P kt key es 0 with
 |none=>rfl
 | some x =>
  cases x with
  |none=>simp only[PX.toPM,zEW]|some i=>
   simp only[PX.toPM,zEN]
   cases es[i]? with
   |none=>rfl|some kv=>obtain⟨k,v⟩:=kv;simp only[bu,PX.toPM,zEW]
def zG3(d:ON)(t:TypeId)(m x:Operand):PX:=zHc m fun m=>zHc x fun key=>match P.underlying t with
 |some (.map kt el)=>.test (zPp P 20 kt key&&key.flat) (zXR (zCS P el) fun z=>.test (zJ8 z).lone (zOJ P d kt (zJ8 z) key m))
 |_=>.fail
theorem zKL{d:ON}{t:TypeId}{m x:Operand}:(zG3 P d t m x).toPM=zGE P d t m x:=by
 simp only[zG3,zGE,zCm];congr 1;funext p;congr 1;funext q
 cases P.underlying t with
 |none=>rfl|some u=>cases u<;>first|rfl|simp only[PX.toPM,zKk,zQ4]
def zKh(i:Nat)(v m:PV):PX :=
 match m with
 |.bmap r pre=>.test v.lone (.deep r pre fun q=>match q with
  |.omap es=>.pick (zOY es i) fun k=>.wnode r pre (.omap (es.modify i fun _=>(k,v))) .ok
  |_=>.fail)
 |_=>.fail
theorem zNU{i:Nat}{v m:PV}:(zKh i v m).toPM=zI2 i v m:=by
 cases m<;>first|rfl|skip
 simp only[zKh,zI2,PX.toPM];congr 1;congr 1;funext q;cases q<;>first|rfl|skip
 rename_i es;simp only[PX.toPM,zOY]
 cases es[i]? with
 |none=>rfl|some kv=>obtain⟨k,x⟩:=kv;rfl
def zFn(m s y:Operand):PX:=zHc m fun m=>zHc s fun s=>zGb s fun i=>zKH y fun v=>zPO zAa zDp v fun v=>zKh i (zA2 v) m
theorem zIJ{m s y:Operand}:(zFn m s y).toPM=zEF m s y:=by
 simp only[zFn,zEF,zCm,zES,zFC,zFA,zNU]
def zN7(d:ON)(c:Call):PX :=
 match c.callee with
 |.builtin b=>zMs P d b c.argTypes.toList c.args.toList|.value f=>zHc f (zSZ H d c.args.toList)|_=>.fail
theorem zQs{d:ON}{c:Call}:(zN7 P H d c).toPM=zKq P H d c:=by
 simp only[zN7,zKq];cases c.callee<;>simp only[PX.toPM,zOt,zCm,zTH]
def opX(fz tk nl:Bool)(o:Oper):PX :=
 match o.op with
 |.assign x=>bif fz&&tk then zTk o.dst x else zKE P tk nl o.dst o.type x|.box t x=>zS0 P o.dst t x|.buildSlice t n ps=>zFo P tk o.dst t n ps.toList|.load t a=>zOF P tk o.dst t a|.store t a x=>zRS P fz tk t a x|.binOp op t x y _=>zTW P o.dst op t x y|.unOp op _ x=>zHc x (zZx o.dst op)|.convert _ t x=>zHc x (zSg P o.dst t)|.makeSlice t l c=>zFU P o.dst t l c|.slice t x lo hi mx=>zRX P o.dst t x lo hi mx|.indexAddr t x i=>zFR P o.dst t x i|.index t x i=>zLI P o.dst t x i|.lookup t m x ok=>zKD P o.dst t m x ok|.mapUpdate t m x y=>zGg P t m x y|.mapEntry t m x=>zG3 P o.dst t m x|.entryStore _ m s x=>zFn m s x|.call c=>zN7 P H o.dst c|_=>.emb (opM P H fz tk nl o)
theorem zYD{fz tk nl:Bool}{o:Oper}:(opX P H fz tk nl o).toPM=opM P H fz tk nl o:=by
 obtain⟨dst,op,type,pos,after,guard⟩:=o;cases op<;>simp only[opX,opM,PX.toPM,zC9,zSk,zMM,zSX,zII,zQN,zSJ,zSF,zCm,zWp,zSS,zKC,zSx,zJ3,zOP,zMT,zKl,zKL,zIJ,zQs]
end
end Go.Eng
namespace Go.Eng
open Go
section
variable [Yo] {P:Program} {H:zBh} {f:FuncId} {nt:Nat} {e e':Env} {lg:Option Log} {K:X->Env->Option Log->Prop} {i:Nat} {c:Code} {s:RS} {R:Env->Option Log->Prop}
abbrev zZq(P:Program)(H:zBh)(f:FuncId)(c:Code)(i:Nat):PX:=opX P H (((H f).frzs (rid c)).contains i) (((H f).take (rid c)).contains i) (H f).nils (zD9 c i)
def zVV[Yo](P:Program)(H:zBh)(f:FuncId)(c:Code)(i:Nat)(as:Ans)(s:RS):Option (RS×List Prop) :=
 match(zZq P H f c i).run P H as s.e with
 |some (e',t,obs)=>(zSw c i s e' t).map fun s'=>(s',obs)
 |none=>none
def rsX(o:Option (RS×List Prop)):RS:=zT7 (o.map (·.1))
theorem S_x(as:Ans)(obs:List Prop)(ho:zTr obs)(h:WS P H f c (i+1) (rsX (zVV P H f c i as s)) R)(hq:(zVV P H f c i as s).map (·.2)=some obs:=by kernel_rfl)(hi:blt i (zER c).size=true:=by kernel_rfl):WS P H f c i s R:=by
 obtain⟨⟨s',obs'⟩,hs,hq⟩:=bm.1 hq;simp only at hq;subst hq;simp only[zVV] at hs;split at hs
 ·rename_i e1 t obs hr;obtain⟨s1,h1,h2⟩:=bm.1 hs;simp only[bw] at h2;obtain⟨rfl,rfl⟩:=h2;obtain⟨n0,hn⟩:=PX.run_ok hr ho;refine zZh (m:=some (e1,t)) ⟨n0,fun n wG=>?_⟩ ?_ ?_ hi
  ·have:=hn n wG;rw[zYD] at this;exact this
  ·simpa[rsX,zVV,hr,h1] using h
  ·simp[h1]
 ·cases hs
def zXt(p:PV)(k:PV->PX)(k2:PX):PX :=
 match p with
 |.bor r pre _ lo n=>.deep r pre fun q=>match q with
  |.own sz xs=>.choose (ble (lo+n) xs.length) (.wnode r pre .bad (.same (.own sz ((xs.drop lo).take n)) k)) k2|_=>k2
 |.addr r pre 0 0 _=>.deep r pre fun q=>match q with
  |.box q=>.wnode r pre .bad (k (.box q))|_=>k2
 |.bmap r pre=>.deep r pre fun q=>match q with
  |.omap es=>.wnode r pre .bad (k (.omap es))|_=>k2
 |_=>k2
omit [Yo] in
theorem zUL{p:PV}{k:PV->PX}{k2:PX}:(zXt p k k2).toPM=zRz p (fun q=>(k q).toPM) k2.toPM:=by
 unfold zXt zRz;split
 ·simp only[PX.toPM];congr 1;funext q;cases q<;>rfl
 ·simp only[PX.toPM];congr 1;funext q;cases q<;>rfl
 ·simp only[PX.toPM];congr 1;funext q;cases q<;>rfl
 ·rename_i h1 h2 h3;split
  ·exact(h1 _ _ _ _ _ rfl).elim
  ·exact(h2 _ _ _ rfl).elim
  ·exact(h3 _ _ rfl).elim
  ·rfl
def zLB(frz:Bool)(p:PV)(k:PV->PX):PX :=
 bif frz||p.ways.any (fun w=>ble zAk w.1) then zPO zAk zDp p k else zXt p k (zPO zAk zDp p k)
def zEz(frz:Bool):List PV->(List PV->PX)->PX
 |[],k=>k []|p::ps,k=>zLB frz p fun q=>zEz frz ps fun qs=>k (q::qs)
def zJc(frz:Bool)(p:PV)(k:PV->PX):PX :=
 match p with
 |.agg cs=>.choose (cs.all fun q=>q.num) (k (.agg cs)) (zEz frz cs fun qs=>k (.agg qs))
 |p=>zLB frz p k
omit [Yo] in
theorem zLq{frz:Bool}{p:PV}{k:PV->PX}:(zLB frz p k).toPM=zFW frz p fun q=>(k q).toPM:=by
 simp only[zLB,zFW,zC9,zFA,zUL]
omit [Yo] in
theorem zFX{frz:Bool}:∀ {ps:List PV} {k:List PV->PX},(zEz frz ps k).toPM=zCJ frz ps fun qs=>(k qs).toPM
 |[],_=>rfl|p::ps,k=>by simp only[zEz,zCJ,zLq,zFX]
omit [Yo] in
theorem zOv{frz:Bool}{p:PV}{k:PV->PM}(h:p.num=true):zFW frz p k=k p:=by
 cases p<;>first|(cases h;done)|skip
 all_goals cases frz<;>rfl
omit [Yo] in
theorem zFN{frz:Bool}:∀ {ps:List PV} {k:List PV->PM},ps.all (fun q=>q.num)=true->zCJ frz ps k=k ps
 |[],_,_=>rfl|p::ps,k,h=>by
  simp only[cO,bb] at h;simp only[zCJ,zOv h.1,zFN h.2]
omit [Yo] in
theorem zJU{frz:Bool}{p:PV}{k:PV->PX}:(zJc frz p k).toPM=zGW frz p fun q=>(k q).toPM:=by
 cases p<;>first|exact zLq|skip
 rename_i cs;simp only[zJc,zGW,PX.toPM,zFX]
 cases h:cs.all fun q=>q.num with
 |false=>rfl|true=>simp only[cond_true];exact(zFN (k:=fun qs=>(k (.agg qs)).toPM) h).symm
def zH9(P:Program)(frz:Bool):Nat->List ResultVar->PX
 |_,[]=>.ok|j,.tmp t::rs=>.view t fun p=>zJc frz p fun q=>.same q fun q=>zXP (zAI+j) q (zH9 P frz (j+1) rs)
 |j,.cell a t::rs=>zXR (shT P t) fun sh=>.view a fun p=>match p with
  |.addr r pre i c _=>zTa r pre i c sh fun v=>zJc frz v fun q=>.same q fun q=>zXP (zAI+j) q (zH9 P frz (j+1) rs)
  |_=>.fail
omit [Yo] in
theorem zIa{frz:Bool}:∀ {rs:List ResultVar} {j:Nat},(zH9 P frz j rs).toPM=zCU P frz j rs
 |[],_=>rfl|.tmp t::rs,j=>by simp only[zH9,zCU,PX.toPM,zJU,zL7,zIa]|.cell a t::rs,j=>by
  simp only[zH9,zCU,zKk,PX.toPM];congr 1;funext sh;congr 1;funext p;cases p<;>first|rfl|simp only[zL6,zJU,PX.toPM,zL7,zIa]
def zH2[Yo](P:Program)(H:zBh)(f:FuncId)(fn:Func)(as:Ans)(e:Env)(nh:Nat):Option ((PV×List PV)×List Prop) :=
 match(zH9 P (H f).frz 0 fn.results.toList).run P H as e with
 |some (e',_,obs)=>bif beq fn.results.size 1&&(e'.get zAI).isTup then none else some ((zXa e' fn.results.size,(range nh).map fun j=>e'.get (zAk+j)),obs)
 |none=>none
def zQq[Yo](P:Program)(H:zBh)(f:FuncId)(fn:Func)(nh:Nat)(v:PV)(hO:List PV)(x:X)(e:Env)(lg:Option Log):Prop :=
 (x = .norm\/x = .ret)/\lg=none/\∃ n0,∀ n,n0<=n->∃ e',(zCU P (H f).frz 0 fn.results.toList).run (zCL P H n) e=some e'/\(bif beq fn.results.size 1&&(e'.get zAI).isTup then none else some (zXa e' fn.results.size,(range nh).map fun j=>e'.get (zAk+j)))=some (v,hO)
theorem E_x{fn:Func}{nh:Nat}{v:PV}{h:List PV}{x:X}(as:Ans)(obs:List Prop)(v':PV)(h':List PV)(ho:zTr obs)(hv:v'=v)(hh:h'=h)(hf:zH2 P H f fn as e nh=some ((v',h'),obs):=by kernel_rfl)(hl:lg=none:=by kernel_rfl)(hx:x = .norm\/x = .ret:=by first|exact .inr rfl|exact .inl rfl):zQq P H f fn nh v h x e lg:=by
 subst hv;subst hh;simp only[zH2] at hf;split at hf
 ·rename_i e1 t obs' hr;rcases zBt hf with⟨_,hf⟩|⟨hb,hf⟩
  ·cases hf
  ·simp only[ba,bw] at hf;obtain⟨⟨h1,h2⟩,rfl⟩:=hf;obtain⟨n0,hn⟩:=PX.run_ok hr ho;refine⟨hx,hl,n0,fun n wG=>⟨e1,?_,?_⟩⟩
   ·have:=hn n wG;rw[zIa] at this;exact zEq this
   ·rw[hb];simp only[cond_false,h1,h2]
 ·cases hf
theorem zAe(fn:Func){args hid:List PV}{v:PV}{hO:List PV}(h:W P H f fn.ntmps (fn.body.getD .ret) (zBg args hid) none (zQq P H f fn hid.length v hO))(hf:P.funcs[f]? = some fn:=by kernel_rfl)(hi:(H f).intr=0:=by kernel_rfl)(hb:fn.body.isSome=true:=by kernel_rfl)
  (hc:(ble args.length fn.ntmps&&ble hid.length 1000&&args.all (fun p=>!p.isTup))=true:=by kernel_rfl):zBM P H f args hid v hO:=by
 obtain⟨body,hb⟩:∃ body,fn.body=some body:=by cases hx:fn.body<;>first|exact⟨_,rfl⟩|(rw[hx] at hb;cases hb)
 simp only[hb,de] at h;obtain⟨n0,x,e1,lg1,h1,hx,rfl,n1,hr⟩:=h;refine⟨max n0 n1+1,fun n hn=>?_⟩;obtain⟨n,rfl⟩:∃ k,n=k+1:=⟨n-1,by omega⟩;have jg:=h1 n (n+1) (by omega) (by omega);obtain⟨e2,h2,hr⟩:=hr n (by omega);show zGe P H (zCL P H n) Yo.yo zCe (n+1) f args hid=_
 simp only[zGe,hf,hi,hb,zJt,hc,cond_true,jg,ne_eq,not_true,if_false];rcases hx with rfl|rfl<;>simp only[h2,hr]
theorem zWG(k:Int)(xss:List (List PV))(args:List PV)(a:Nat)(h1:k=1->WS P H f c (i+1) ⟨(zFG s.dr i (zD9 c i) {all:=true}).getD none,zNn ((put (zD9 c i).dst (.bool false)).run zHS (s.e.forget zAa)),some ⟨xss++[args],k-1,a⟩⟩ R)
  (h2:k≠1->WS P H f c (i+1) ⟨(zFG s.dr i (zD9 c i) {all:=true}).getD none,zNn ((put (zD9 c i).dst (.bool true)).run zHS s.e),some ⟨xss++[args],k-1,a⟩⟩ R) (hk:k≠0)
  (hy:zCr s.e (zD9 c i)=some (a,args):=by kernel_rfl) (hl:s.lg=some ⟨xss,k,a⟩:=by kernel_rfl) (hw:zMq (zER c) s.e (zD9 c i)=some true:=by kernel_rfl) (hf:args.all PV.flat=true:=by kernel_rfl)
  (hd:(zFG s.dr i (zD9 c i) {all:=true}).isSome=true:=by kernel_rfl) (ka:((put (zD9 c i).dst (.bool false)).run zHS (s.e.forget zAa)).isSome=true:=by kernel_rfl) (jk:((put (zD9 c i).dst (.bool true)).run zHS s.e).isSome=true:=by kernel_rfl)
  (hi:blt i (zER c).size=true:=by kernel_rfl):WS P H f c i s R:=by
 have qH:zFG s.dr i (zD9 c i) {all:=true}=some ((zFG s.dr i (zD9 c i) {all:=true}).getD none):=by
  cases hx:zFG s.dr i (zD9 c i) {all:=true} with
  |none=>rw[hx] at hd;cases hd|some d=>rfl
 have vo:(k != 0)=true:=by simpa using hk
 by_cases jX:k=1
 ·refine zLY hi ⟨0,fun n _=>?_⟩ qH (h1 jX);have hr:(put (zD9 c i).dst (.bool false)).run (zCL P H n) (s.e.forget zAa)=some (zNn ((put (zD9 c i).dst (.bool false)).run zHS (s.e.forget zAa))):=zGc (zId ka);have qD:(k==1)=true:=by simpa using jX
  have hyr:zB4 (zCL P H n) (zER c) (zD9 c i) a args ⟨xss,k,a⟩ s.e=some (zNn ((put (zD9 c i).dst (.bool false)).run zHS (s.e.forget zAa)),some ⟨xss++[args],k-1,a⟩):=by
   unfold zB4;rw[hw];simp only;rw[hf,vo,cz,qD];simp only[dH,cond_true];rw[hr];rfl
  rw[hl];unfold zEx;simp only;rw[hy];simp only;rw[hyr];rfl
 ·refine zLY hi ⟨0,fun n _=>?_⟩ qH (h2 jX);have hr:(put (zD9 c i).dst (.bool true)).run (zCL P H n) s.e=some (zNn ((put (zD9 c i).dst (.bool true)).run zHS s.e)):=zGc (zId jk);have qD:(k==1)=false:=by simpa using jX
  have hyr:zB4 (zCL P H n) (zER c) (zD9 c i) a args ⟨xss,k,a⟩ s.e=some (zNn ((put (zD9 c i).dst (.bool true)).run zHS s.e),some ⟨xss++[args],k-1,a⟩):=by
   unfold zB4;rw[hw];simp only;rw[hf,vo,cz,qD];simp only[dH,cond_true,cond_false];rw[hr];rfl
  rw[hl];unfold zEx;simp only;rw[hy];simp only;rw[hyr];rfl
theorem zXg{σ:Type}{c:Code}(Inv:σ->Prop)(upd:σ->List (Nat×PV))(L:σ->Option Log)(μ:σ->Nat)(s:σ)(hi:Inv s) (h:∀ s,Inv s->W P H f nt (cl c) (zMt (upd s) (e.drop ((H f).loopDrop (zA5 (cl c))))) (L s) fun x e' lg'=>match x with
   |.norm=>∃ s',Inv s'/\μ s'<μ s/\e'.drop ((H f).loopDrop (zA5 (cl c)))=zMt (upd s') (e.drop ((H f).loopDrop (zA5 (cl c))))/\lg'=L s'|x=>K x e' lg') (hs:e.drop ((H f).loopDrop (zA5 (cl c)))=zMt (upd s) (e.drop ((H f).loopDrop (zA5 (cl c)))):=by kernel_rfl) (hl:lg=L s:=by kernel_rfl) (hc:zPb c=true:=by kernel_rfl):W P H f nt c e lg K:=by
 rw [zMx hc];generalize hE:e.drop ((H f).loopDrop (zA5 (cl c)))=e0 at h hs;have key:∀ (n:Nat) (s:σ) (e:Env) (lg:Option Log),μ s<=n->Inv s->e.drop ((H f).loopDrop (zA5 (cl c)))=zMt (upd s) e0->lg=L s->W P H f nt (.loop (cl c)) e lg K:=by
  intro n
  induction n with
  | zero =>
   intro s e lg hs hi he uc;subst uc;obtain⟨n0,x,e1,lg1,h1,h2⟩:=h s hi
   cases x with
   |norm=>obtain⟨s',_,h3,_⟩:=h2;omega
   |ex id=>
    refine⟨n0+1,_,e1,lg1,fun n m hn hm=>?_,h2⟩;obtain⟨m,rfl⟩:∃ k,m=k+1:=⟨m-1,by omega⟩;simp only[exec,he,h1 n m (by omega) (by omega)]
   |ret=>
    refine⟨n0+1,_,e1,lg1,fun n m hn hm=>?_,h2⟩;obtain⟨m,rfl⟩:∃ k,m=k+1:=⟨m-1,by omega⟩;simp only[exec,he,h1 n m (by omega) (by omega)]
  | succ n ih =>
   intro s e lg hs hi he uc;subst uc;obtain⟨n0,x,e1,lg1,h1,h2⟩:=h s hi
   cases x with
   |norm=>
    obtain⟨s',h3,h4,h7,h8⟩:=h2;obtain⟨n2,x,e2,lg2,h5,h6⟩:=ih s' e1 lg1 (by omega) h3 h7 h8;refine⟨max n0 n2+1,x,e2,lg2,fun n m hn hm=>?_,h6⟩;obtain⟨m,rfl⟩:∃ k,m=k+1:=⟨m-1,by omega⟩;simp only[exec,he,h1 n m (by omega) (by omega),h5 n m (by omega) (by omega)]
   |ex id=>
    refine⟨n0+1,_,e1,lg1,fun n m hn hm=>?_,h2⟩;obtain⟨m,rfl⟩:∃ k,m=k+1:=⟨m-1,by omega⟩;simp only[exec,he,h1 n m (by omega) (by omega)]
   |ret=>
    refine⟨n0+1,_,e1,lg1,fun n m hn hm=>?_,h2⟩;obtain⟨m,rfl⟩:∃ k,m=k+1:=⟨m-1,by omega⟩;simp only[exec,he,h1 n m (by omega) (by omega)]
 exact key (μ s) s e lg (bi _) hi (hE.trans hs) hl
end
end Go.Eng
namespace Go.Eng
open Go
abbrev I(n:Int):PV := .int .i64 n
abbrev zBi(l:LI):PV := .sl (l.map I)
section
theorem zMA{a b:Bool}(ha:a=true)(hb:b=true):(a&&b)=true:=by rw[ha,hb];rfl
theorem zAP{a b:Nat}(h:a<=b):ble a b=true:=by rw[fG];exact h
theorem zBj{a b:Nat}(h:a=b):beq a b=true:=by rw[h];exact cz _
theorem zAl{p:Prop}[Decidable p](h:p):decide p=true:=decide_eq_true h
variable {α:Type} {g:α->PV} {l:List α} {i:Nat} {d:α} {x q root root':PV} {xs:List PV} {r z c n:Nat} {pre rest:zA4}
theorem zBN(d:α)(h:i<l.length):(l.map g)[i]? = some (g (l.getD i d)):=by simp[List.getD,bk h]
theorem zFm{u:α}:(l.map g).set i (g u)=(l.set i u).map g:=(iw).symm
theorem zFV(hx:xs[i]? = some x){y:PV}(hn:zAC y rest=some q)(hh:zA9 root=some xs:=by kernel_rfl)(hc:x.cells[c]? = some y:=by kernel_rfl):zAC root ((i,c)::rest)=some q:=by
 simp only[zAC,hh,hx,hc,hn]
def zNo(r:Nat)(pre:zA4)(i c n:Nat)(x:PV):Option (Bool×List PV):=bif ble (c+n) x.cells.length then some (x.isAgg,zBR r pre i c ((x.cells.drop c).take n)) else none
theorem zB2{a:Bool}{qs:List PV}(hn:zAC root.unlock pre=some q)(hx:xs[i]? = some x)(hr:zNo r pre i c n x=some (a,qs):=by kernel_rfl)(hh:zBm q=some xs:=by kernel_rfl):zAo r root pre i c n=some (a,qs):=by
 simp only[zAo,hn,hh,hx];exact hr
theorem zNy{qs:List PV}{xs':List PV}(hx:xs[i]? = some x)(hs:xs.set i (zAF x c qs)=xs')(hb:ble (c+qs.length) x.cells.length=true:=by kernel_rfl)(hw:(zBE qs).isEmpty=true:=by kernel_rfl):zBO (.own z xs) [] i c qs=some (.own z xs')/\zAH (.own z xs) (.own z xs') []=true:=by
 subst hs;constructor
 ·simp only[zBO,hw,dy,dO,cond_false,zAz,zBm,hx,hb,cond_true,zAK]
 ·simp[zAH,zCo]
theorem zB7{x m:Nat}(h:beq m 1=true):0+x*m=x:=by rw[bc h,fi,dh]
theorem zB6{a x m:Nat}(h:beq m 1=true):a+x*m=a+x:=by rw[bc h,fi]
def wf(i c:Nat)(qs:List PV)(q:PV):Option PV:=match zBm q with
 |some xs=>match xs[i]? with
  |some x=>bif ble (c+qs.length) x.cells.length then zAK q (xs.set i (zAF x c qs)) else none|none=>none
 |none=>none
theorem zLu{qs:List PV}{q' y:PV}(hx:xs[i]? = some x)(hs:zAF x c qs=y)(hq:zAK q (xs.set i y)=some q')(hh:zBm q=some xs:=by kernel_rfl)(hb:ble (c+qs.length) x.cells.length=true:=by kernel_rfl):zAz (wf i c qs) q []=some q':=by
 subst hs;simp only[zAz,wf,hh,hx,hb,cond_true,hq]
theorem zYG{f:PV->Option PV}{p p' q' y:PV}(hx:xs[i]? = some x)(hm:zAz f q rest=some q')(hs:zAF x c [q']=y)(hp:zAK p (xs.set i y)=some p')(hh:zA9 p=some xs:=by kernel_rfl)(hc:x.cells[c]? = some q:=by kernel_rfl):zAz f p ((i,c)::rest)=some p':=by
 subst hs;simp only[zAz,hh,hx,hc,hm,hp]
theorem zRd{qs:List PV}{b:Bool}(h:zAz (wf i c qs) root pre=some root')(hk:zAH root root' pre=b)(hw:(zBE qs).isEmpty=true:=by kernel_rfl):zBO root pre i c qs=some root'/\zAH root root' pre=b:=by
 refine⟨?_,hk⟩;simp only[zBO,hw,dy,dO,cond_false];exact h
theorem zWb{w:Nat}{p2:Nat×zA4}:zAH (.own z (xs)) (.own z (xs.set i x)) pre=true:=by
 cases pre<;>simp[zAH,zCo]
theorem zWi{u:α}:zAH (.own z (l.map g)) (.own z ((l.set i u).map g)) pre=true:=by
 cases pre<;>simp[zAH,zCo]
theorem zAq(l:List α)(h:∀ x,zA2 (g x)=g x:=by intro;rfl):zAt (l.map g)=l.map g:=by
 induction l with
 |nil=>rfl|cons x l ih=>simp only[bM,zAt,h,ih]
theorem zBL{ys:List PV}(hy:xs=ys)(h2:zAt ys=ys):zAt xs=ys:=by rw[hy];exact h2
theorem zBv(l:List α)(h:∀ x,(g x).free=true:=by intro;rfl):zEy (l.map g)=true:=by
 induction l with
 |nil=>rfl|cons x l ih=>simp only[bM,zEy,h,ih,dH]
theorem zJ6(l:List α)(h:∀ x,(g x).ways=[]:=by intro;rfl):zBE (l.map g)=[]:=by
 induction l with
 |nil=>rfl|cons x l ih=>simp only[bM,zBE,h,ih,dn]
theorem all_map{p:PV->Bool}(l:List α)(h:∀ x,p (g x)=true:=by intro;rfl):(l.map g).all p=true:=by
 rw[List.all_map];exact bj.2 fun x _=>h x
theorem zBd(l:List α):take l.length (l.map g)=l.map g:=bz (by simp)
theorem zAQ{xs ys:List PV}(h:xs=ys):own z xs=own z ys:=by rw[h]
theorem zJ7{xs ys:List PV}(h:xs=ys):sl xs=sl ys:=by rw[h]
theorem zF2{a x m:Nat}{sh:ON}(h:beq m 1=true):addr r pre i (a+x*m) sh=addr r pre i (a+x) sh:=by rw[bc h,fi]
end
end Go.Eng
namespace Go.Eng
open Go
section
def zW1:Code->Bool
 |.label _=>true|_=>false
theorem ap{p:Prop}{ps:List Prop}(h:p)(hs:zTr ps):zTr (p::ps):=⟨h,hs⟩
theorem an:zTr []:=trivial
theorem zCj{a b:Int}(h:a=b)(hr : -9223372036854775808<=b/\b<9223372036854775808):int .i64 (IntKind.i64.wrap a)=int .i64 b:=by rw[h,zYc hr]
variable [Yo] {P:Program} {H:zBh} {f:FuncId} {nt:Nat} {e e':Env} {lg:Option Log} {K:X->Env->Option Log->Prop} {i:Nat} {c:Code} {s:RS} {R:Env->Option Log->Prop}
theorem S_a(as:Ans){obs:List Prop}(ho:zTr obs)(h:WS P H f c (i+1) (rsX (zVV P H f c i as s)) R)(hq:(zVV P H f c i as s).map (·.2)=some obs:=by kernel_rfl)(hi:blt i (zER c).size=true:=by kernel_rfl):WS P H f c i s R:=S_x as obs ho h hq hi
theorem E_a{fn:Func}{nh:Nat}{v:PV}{h:List PV}{x:X}(as:Ans){obs:List Prop}(ho:zTr obs)(v':PV)(h':List PV)(hv:v'=v)(hh:h'=h)(hf:zH2 P H f fn as e nh=some ((v',h'),obs):=by kernel_rfl)(hl:lg=none:=by kernel_rfl)(hx:x = .norm\/x = .ret:=by first|exact .inr rfl|exact .inl rfl):zQq P H f fn nh v h x e lg:=E_x as obs v' h' ho hv hh hf hl hx
theorem zWW{c:Code}(h:K .norm e lg)(hc:zW1 c=true:=by kernel_rfl):W P H f nt c e lg K:=by
 cases c<;>first|(cases hc;done)|exact zUo 1 rfl h
theorem zYR{t:TypeId}{k:IntKind}{a b q:Int}(hb:b≠0)(h:a.tmod b=q):zHT P .rem t (.int k a) (.int k b)=some (.int k q):=by
 simp[zHT,zU1,hb,h]
end
end Go.Eng
namespace Go.Eng
open Go
section
variable [Yo] {P:Program} {H:zBh} {f:FuncId}
end
end Go.Eng
namespace Go.Eng
open Go
def zOo(pre:zA4)(put:PV->PV):Prop:=∀ f z xs,zAz f (put (.own z xs)) pre=(f (.own z xs)).map put
theorem zOo.nil:zOo [] (fun q=>q):=fun f z xs=>by simp[zAz]
theorem zOo.box:zOo [(0,0)] (fun q=>.box q):=fun f z xs=>by
 simp only[zAz,zA9,bJ,PV.cells];cases f (.own z xs)<;>rfl
theorem zGU[Yo]{r z:Nat}{pre:zA4}{put:PV->PV}(L:zOo pre put):∀ {ys:List PV} {j:Nat} {xs:List PV} {e:Env},e.get r=put (.own z xs)->j+ys.length<=xs.length->(∀ (a:Nat) (x y:PV),xs[j+a]? = some x->ys[a]? = some y->y.heavy=false/\y.cells.all (fun q=>q.ways.isEmpty)=true/\y.cells.length<=x.cells.length/\zAF x 0 y.cells=y) ->
  ∃ e',e'.get r=put (.own z (xs.take j++ys++xs.drop (j+ys.length)))/\(∀ t,t≠r->e'.get t=e.get t)/\∀ (o:zAM) (k:PM),(zGL r pre j ys k).run o e=k.run o e'
 |[],j,xs,e,he,hj,hy=>⟨e,by simp[he],fun _ _=>rfl,fun _ _=>rfl⟩
 | y :: ys,j,xs,e,he,hj,hy=>by
  simp only[b9] at hj;have hjx:j<xs.length:=by omega
  obtain⟨h1,h2,h3,h4⟩:=hy 0 xs[j] y (by simp[hjx]) rfl;have hws:zBE y.cells=[]:=zMO h2;have hb:ble (0+y.cells.length) xs[j].cells.length=true:=by rw[fG];omega
  have yY:(e.set r (put (.own z (xs.set j y)))).get r=put (.own z (xs.set j y)):=by rw[Env.get_set,if_pos rfl]
  obtain⟨e',g1,g2,g3⟩:=zGU L (ys:=ys) (j:=j+1) yY (by simp;omega) fun a x' y' ue u9=>by
   rw[dV] at ue;rw[if_neg (by omega)] at ue;exact hy (a+1) x' y' (by rw[<- ue];congr 1;omega) (by simpa using u9)
  refine⟨e',?_,fun t ht=>?_,?_⟩
  ·rw[g1,zUl hj];simp only[b9]
  ·rw[g2 t ht,Env.get_set,if_neg ht]
  ·intro o k;simp only[zGL];rw[zFu (by simpa using zNZ h1)];simp only[PM.run,he,zBO,hws,List.isEmpty_nil,dy,dO,cond_false,L _ z xs,zBm,bk hjx,hb,cond_true,zAK,h4,bu];exact g3 o k
section
variable [Yo] {P:Program} {H:zBh} {f:FuncId} {i:Nat} {c:Code} {R:Env->Option Log->Prop}
theorem zTV{pre:zA4}(put':PV->PV)(r s:Nat)(xs ys zs:List PV){st:RS}(hy:∀ (a:Nat) (x y:PV),xs[a]? = some x->ys[a]? = some y->zYr s x y)(hZ:ys.length<=xs.length)(hz:ys++xs.drop ys.length=zs)(L:zOo pre put')
  (h:WS P H f c (i+1) ⟨none,zNn ((put (zD9 c i).dst (.int .i64 ys.length)).run zHS (st.e.set r (put' (.own s zs)))),none⟩ R) (he:st.e.get r=put' (.own s xs):=by kernel_rfl) (ho:zV5 P st.e (zD9 c i)=some (s,.bor r pre s 0 xs.length,.sl ys):=by kernel_rfl) (hs:blt 0 s=true:=by kernel_rfl)
  (hq:((put (zD9 c i).dst (.int .i64 ys.length)).run zHS (st.e.set r (put' (.own s zs)))).isSome=true:=by kernel_rfl) (js:st.dr=none:=by kernel_rfl) (uc:st.lg=none:=by kernel_rfl) (hg:zLK c i st.e=true:=by kernel_rfl) (hi:blt i (zER c).size=true:=by kernel_rfl):WS P H f c i st R:=by
 subst hz;obtain⟨dr,e,lg⟩:=st;simp only at js h he ho hq hg uc;subst js;subst uc;have uL:∀ y∈ys,y.plain=true/\y.cells.length=s:=fun y u9=>by
  obtain⟨a,ha⟩:=cj u9;have yL:=(bf.1 ha).1;have:=hy a _ y (bk (by omega)) ha;exact⟨this.1,this.2.1⟩
 obtain⟨e',g1,g2,g3⟩:=zGU L he (j:=0) (ys:=ys) (by omega) fun a x y hx u9=>by
  rw[dh] at hx;obtain⟨_,_,h3,h4,h5,h6⟩:=hy a x y hx u9;exact⟨h3,h4,h5,h6⟩
 simp only[dP,cY,dh] at g1;have yY:∀ t,e'.get t=(e.set r (put' (.own s (ys++xs.drop ys.length)))).get t:=fun t=>by
  rw[Env.get_set];split
  ·rename_i h;subst h;exact g1
  ·rename_i h;exact g2 t h
 have kJ:=zId hq;obtain⟨e1,h1,h2⟩:=zF4 (funext yY) kJ;refine zYl (s:=⟨none,e,none⟩) (e':=e1) ⟨0,fun n _=>?_⟩ (zV8 h fun t=>congrFun h2 t) rfl rfl hg hi;have yA:=zGc (o:=zCL P H n) h1;show(opM P H _ _ _ (zD9 c i)).run _ e=_
 generalize zD9 c i=o at ho yA;cases hop:o.op<;>simp only[zV5,hop] at ho<;>try (cases ho;done)
 rename_i cc;split at ho
 ·rename_i x y t ts hc ha hT;split at ho
  ·rename_i s' yz;simp only[ba,bw] at ho;obtain⟨rfl,hx,hyv⟩:=ho;have hb:ble ys.length xs.length=true:=by rw[fG];exact hZ
   have jn:(ys.all fun y=>y.plain&&beq y.cells.length s')=true:=bj.2 fun y u9=>by
    obtain⟨q1,q2⟩:=uL y u9;rw[q1,q2,cz];rfl
   simp only[opM,hop,zKq,hc,ha,hT,zBB,yz,zJa];rw[zOU hx (by simp),zOU hyv (by simp)];simp only[zHM,cz,hs,hb,jn,dH,cond_true];rw[g3];exact yA
  ·cases ho
 ·cases ho
theorem zO8{α β:Type}{g:α->PV}{g':β->PV}{s:Nat}{l:List α}{m:List β}(h:∀ (x:α) (y:β),zYr s (g x) (g' y)):∀ (a:Nat) (x y:PV),(l.map g)[a]? = some x->(m.map g')[a]? = some y->zYr s x y:=by
 intro a x y hx hy;rw[ce] at hx hy;obtain⟨x',_,rfl⟩:=bm.1 hx;obtain⟨y',_,rfl⟩:=bm.1 hy;exact h x' y'
theorem zGD{k:IntKind}{a b:Int}:zYr 1 (.int k a) (.int k b):=⟨rfl,rfl,rfl,rfl,bi _,rfl⟩
theorem zRt{α β:Type}{g:α->PV}{g':β->PV}{l:List α}{m:List β}(h:l.length=m.length):l.map g++(m.map g').drop (l.map g).length=l.map g:=by simp[h]
end
end Go.Eng
namespace Go.Eng
open Go
abbrev zQx(sh:ON)(a:LI):PV:=match sh with|none=>I (a.getD 0 0)|some _=>.agg (a.map I)
theorem zPI{l:LI}{i k:Nat}{sh:ON}(jf:sh=some k\/(sh=none/\k=1))(h:i+k<=l.length):sub (.agg (l.map I)) i sh=some (zQx sh ((l.drop i).take k)):=by
 rcases jf with rfl|⟨rfl,rfl⟩
 ·simp only[sub,be,h,if_true,zQx,fd,fe]
 ·have h2:i<l.length:=by omega
  simp only[sub,zQx];rw[bX h2];simp[h2]
theorem zM8{eq:PV->PV->Option Bool}{sh:ON}{k:Nat}{l m:LI}(uY:∀ a b:LI,a.length=k->b.length=k->eq (zQx sh a) (zQx sh b)=some (decide (a=b)))(jf:sh=some k\/(sh=none/\k=1)):∀ n i,(i+n)*k=l.length->(i+n)*k=m.length->zV4 eq sh k (.agg (l.map I)) (.agg (m.map I)) i n=some (decide (l.drop (i*k)=m.drop (i*k)))
 |0,i,h1,h2=>by
  simp only[zV4];rw[dx (by simpa using Nat.le_of_eq h1.symm),dx (by simpa using Nat.le_of_eq h2.symm)];simp
 |n + 1,i,h1,h2=>by
  have e:(i+(n+1))*k=i*k+k+n*k:=by rw[cK,cW];omega
  have e1:(i+1)*k=i*k+k:=by rw[cW]
  have hl:i*k+k<=l.length:=by omega
  have hm:i*k+k<=m.length:=by omega
  have ih:=zM8 uY jf n (i+1) (by rw[<- h1];congr 1;omega) (by rw[<- h2];congr 1;omega);simp only[zV4,zPI jf hl,zPI jf hm];rw[uY _ _ (by rw[bY,d7];omega) (by rw[bY,d7];omega)];have d1:l.drop (i*k)=(l.drop (i*k)).take k++l.drop ((i+1)*k):=by rw[e1,<- dB,cm]
  have d2:m.drop (i*k)=(m.drop (i*k)).take k++m.drop ((i+1)*k):=by rw[e1,<- dB,cm]
  by_cases hc:(l.drop (i*k)).take k=(m.drop (i*k)).take k
  ·simp only[hc,decide_true,ih];congr 1;rw[d1,d2,hc];simp
  ·simp only[hc,decide_false];rw[Eq.comm,decide_eq_false];intro hx;exact hc (by rw[hx])
def zPc:Option TypeDesc->Bool
 |some (.array ..)=>true|_=>false
def zWM:Option TypeDesc->Bool
 |some (.int .i64)=>true|_=>false
theorem zUu{x:Option TypeDesc}(h:zWM x=true):x=some (.int .i64):=by
 unfold zWM at h;split at h
 ·rfl
 ·cases h
theorem zNf{x:Option TypeDesc}(h:zPc x=true):∃ c e,x=some (.array c e):=by
 unfold zPc at h;split at h
 ·exact⟨_,_,rfl⟩
 ·cases h
def zVm(P:Program):Nat->TypeId->ON
 |0,_=>none
 | n + 1,t=>match P.underlying t with
  |some (.int k)=>if k = .i64 then some 1 else none
  |some (.array m e)=>match szT P e,shT P e,zVm P n e with
   |some sz,some sh,some k=>if sz=k/\(sh=some k/\zPc (P.underlying e)=true\/sh=none/\k=1/\zWM (P.underlying e)=true) then some (m*k) else none
   |_,_,_=>none
  |_=>none
theorem zWj{P:Program}{n:Nat}{t:TypeId}{a b:Int}(h:P.underlying t=some (.int .i64)):eqT P (n+1) t (I a) (I b)=some (decide (a=b)):=by
 simp only[eqT,h,if_true];rfl
theorem zPY{P:Program}:∀ (n:Nat) (t:TypeId) (k:Nat) (l m:LI),zVm P n t=some k->(∃ c e,P.underlying t=some (.array c e))->l.length=k->m.length=k->eqT P n t (.agg (l.map I)) (.agg (m.map I))=some (decide (l=m))
 |0,_,_,_,_,h,_,_,_=>by cases h
 | n + 1, t, k,l,m,h,⟨c,e,hu⟩,hl,hm=>by
  simp only[zVm,hu] at h;split at h
  ·rename_i sz sh k1 h1 h2 h3;split at h
   ·rename_i hx;obtain⟨rfl,hx⟩:=hx;cases h;simp only[eqT,hu,h1,h2];have:=zM8 (eq:=eqT P n e) (sh:=sh) (k:=sz) (l:=l) (m:=m) (fun a b ha hb=>by
     rcases hx with⟨rfl,hx⟩|⟨rfl,rfl,hx⟩
     ·exact zPY n e sz a b h3 (zNf hx) ha hb
     ·cases n with
      |zero=>cases h3|succ n=>
       simp only[zQx,zWj (zUu hx)]
       match a,b,ha,hb with
       |[x],[y],_,_=>simp) (by
     rcases hx with⟨rfl,_⟩|⟨rfl,rfl,_⟩
     ·exact .inl rfl
     ·exact .inr ⟨rfl,rfl⟩) c 0 (by rw[hl];simp) (by rw[hm];simp)
    simpa using this
   ·cases h
  ·cases h
def zLD(P:Program)(t:TypeId)(k:Nat):Bool := !P.eqGuardType P.depth t&&decide (zVm P 20 t=some k)&&zPc (P.underlying t)
theorem zSP{P:Program}{t:TypeId}{k:Nat}{l m:LI}(h:zLD P t k=true)(hl:l.length=k)(hm:m.length=k):eqT P 20 t (.agg (l.map I)) (.agg (m.map I))=some (decide (l=m)):=by
 unfold zLD at h;simp only[bb,decide_eq_true_eq,bD] at h;obtain⟨⟨h1,h2⟩,h3⟩:=h;exact zPY 20 t k l m h2 (zNf h3) hl hm
theorem zV6{P:Program}{t:TypeId}{k:Nat}{l m:LI}(h:zLD P t k=true)(hl:l.length=k)(hm:m.length=k):eqV P t (.agg (l.map I)) (.agg (m.map I))=some (decide (l=m)):=by
 have hg:P.eqGuardType P.depth t=false:=by
  unfold zLD at h;simp only[bb,bD] at h;exact h.1.1
 simp only[eqV,hg,cond_false,zSP h hl hm]
theorem zWo{P:Program}{t:TypeId}{l m:LI}(k:Nat)(hl:l.length=k)(hm:m.length=k)(h:zLD P t k=true:=by kernel_rfl):zHT P .eql t (.agg (l.map I)) (.agg (m.map I))=some (.bool (decide (l=m))):=by
 simp only[zHT,zV6 h hl hm,bu]
theorem zWm{P:Program}{t:TypeId}{l m:LI}(k:Nat)(hl:l.length=k)(hm:m.length=k)(h:zLD P t k=true:=by kernel_rfl):zHT P .neq t (.agg (l.map I)) (.agg (m.map I))=some (.bool (!decide (l=m))):=by
 simp only[zHT,zV6 h hl hm,bu]
theorem zTs{a b c d:Int}:decide ([a,b]=[c,d])=(decide (a=c)&&decide (b=d)):=by simp
theorem zSD{P:Program}{t:TypeId}{a b c d:Int}(h:zLD P t 2=true:=by kernel_rfl):zHT P .eql t (.agg [I a,I b]) (.agg [I c,I d])=some (.bool (decide (a=c)&&decide (b=d))):=by
 rw[<- zTs];exact zWo (l:=[a,b]) (m:=[c,d]) 2 rfl rfl h
theorem zJL{P:Program}{kt:TypeId}{α:Type}{g:α->PV×PV}{kx ky:α->Int}(hk:∀ x,(g x).1 = .agg [I (kx x),I (ky x)])(uY:∀ a b c d:Int,eqT P 20 kt (.agg [I a,I b]) (.agg [I c,I d])=some (decide (a=c)&&decide (b=d)))(a b:Int):∀ (M:List α) (i:Nat),zCV P kt (.agg [I a,I b]) (M.map g) i=some ((M.findIdx? fun x=>decide (a=kx x)&&decide (b=ky x)).map (· + i))
 |[],i=>rfl
 | x :: M,i=>by
  have h1:=uY a b (kx x) (ky x);rw[<- hk x] at h1;have h2:zFT (agg [I a,I b]).cells (g x).1.cells=some (a==kx x&&(b==ky x&&true)):=by rw[hk x];rfl
  rw[bM,ib];have e:g x=((g x).1,(g x).2):=rfl;rw[e];simp only[zCV,h1,h2]
  cases hc:(decide (a=kx x)&&decide (b=ky x)) with
  |true=>
   simp only[bb,decide_eq_true_eq] at hc;simp[hc.1,hc.2]
  |false=>
   simp only;rw[zJL hk uY a b M (i+1)];simp only[bp,if_false,Option.map_map];congr 2;funext y;simp only[Function.comp];omega
theorem zTF{P:Program}{t:TypeId}(h:zLD P t 2=true:=by kernel_rfl)(a b c d:Int):eqT P 20 t (.agg [I a,I b]) (.agg [I c,I d])=some (decide (a=c)&&decide (b=d)):=by
 rw[<- zTs];exact zSP (l:=[a,b]) (m:=[c,d]) h rfl rfl
def zY8(F:LI)(n:Nat):Nat->List PV
 |0=>[]|m+1=>I (F.getD (n-(m+1)) 0)::zY8 F n m
abbrev zAY(F:LI)(m:Nat):List PV:=zY8 F m m
theorem zRO{F:LI}{n:Nat}:∀ (m:Nat),m<=n->zY8 F n m=(List.range' (n-m) m).map fun k=>I (F.getD k 0)
 |0,_=>rfl|m+1,h=>by
  rw[zY8,zRO m (by omega),fq,bM,show n-(m+1)+1=n-m by omega]
theorem zN5{F:LI}{m:Nat}:zAY F m=(range m).map fun k=>I (F.getD k 0):=by
 rw[List.range_eq_range',zAY,zRO m (bi m),fX]
theorem zEG{F:LI}{m:Nat}(h:F.length=m):zAY F m=F.map I:=by
 rw[zN5];apply dk;intro k;by_cases hk:k<m
 ·simp[hk,show k<F.length by omega]
 ·rw[dp (by simp;omega),dp (by simp;omega)]
section
variable {A B:List PV} {F:LI} {m j:Nat} {r i c':Nat} {pre:zA4}
theorem zJ0:(zAY F m).length=m:=by rw[zN5];simp
theorem zT0(hj:j<m):(zAY F m)[j]? = some (I (F.getD j 0)):=by rw[zN5];simp[hj]
theorem zWv(hj:j<m):(A++zAY F m++B)[A.length+j]? = some (I (F.getD j 0)):=by
 rw[cx,cQ (by omega),dI,cn (by rw[zJ0];exact hj)];exact zT0 hj
theorem zYp(hj:j<m):zBT (.ref (.agg (zAY F m))) j none=some (.ref (I (F.getD j 0))):=by
 have h1:(I (F.getD j 0)).oneCell=true:=rfl;simp only[zBT,zPh,sub,zT0 hj,Option.isSome,co,h1,cond_true]
theorem zDE{n:Nat}(hj:j<m)(hn:beq n 1=true:=by kernel_rfl):zBT (.ref (.agg (zAY F m))) (j*n) none=some (.ref (I (F.getD j 0))):=by
 rw[bc hn,fi];exact zYp hj
theorem zKW(hc:c'=A.length+j)(hj:j<m):zNo r pre i c' 1 (.agg (A++zAY F m++B))=some (true,[I (F.getD j 0)]):=by
 subst hc;have hZ:A.length+j<(A++zAY F m++B).length:=by rw[bA,bA,zJ0];omega
 have hb:ble (A.length+j+1) (agg (A++zAY F m++B)).cells.length=true:=by rw[fG];exact hZ
 have h2:((A++zAY F m++B).drop (A.length+j)).take 1=[I (F.getD j 0)]:=by
  rw[bX hZ];have:=zWv (A:=A) (B:=B) (F:=F) hj;rw[bk hZ] at this;simp only[ba] at this;rw[this];simp
 simp only[zNo,hb,cond_true,PV.isAgg];show some (true,zBR r pre i (A.length+j) (((A++zAY F m++B).drop (A.length+j)).take 1))=_
 rw[h2];rfl
theorem zW5{u:Int}(hj:j<m)(hF:F.length=m):(zAY F m).set j (I u)=zAY (F.set j u) m:=by
 rw[zEG hF,zEG (F:=F.set j u) (by simpa using hF),iw]
theorem zPi{u:Int}(hc:c'=A.length+j)(hj:j<m)(hF:F.length=m):zAF (.agg (A++zAY F m++B)) c' [I u] = .agg (A++zAY (F.set j u) m++B):=by
 subst hc;have hZ:A.length+j<(A++zAY F m++B).length:=by rw[bA,bA,zJ0];omega
 have e:(A++zAY F m++B).take (A.length+j)++[I u]++(A++zAY F m++B).drop (A.length+j+1)=(A++zAY F m++B).set (A.length+j) (I u):=by
  rw[cg,if_pos hZ];simp
 simp only[zAF,bW,e];rw[cx,fR _ _ (by omega),dI,List.set_append_left _ _ (by rw[zJ0];exact hj),zW5 hj hF,cx]
theorem zPN(hc:c'=A.length+j)(hj:j<m){q:PV}:ble (c' + [q].length) (agg (A++zAY F m++B)).cells.length=true:=by
 subst hc;rw[fG];show _<=(A++zAY F m++B).length;rw[bA,bA,zJ0];simp;omega
theorem zXe(hj:j<m):sub (.agg (zAY F m)) j none=some (I (F.getD j 0)):=by
 simp only[sub,zT0 hj]
theorem zD5(hc:c'=j)(hj:j<m):zNo r pre i c' 1 (.agg (zAY F m))=some (true,[I (F.getD j 0)]):=by
 have:=zKW (A:=[]) (B:=[]) (F:=F) (r:=r) (pre:=pre) (i:=i) (c':=c') (by simpa using hc) hj;simpa using this
theorem zOm{u:Int}(hc:c'=j)(hj:j<m)(hF:F.length=m):zAF (.agg (zAY F m)) c' [I u] = .agg (zAY (F.set j u) m):=by
 have:=zPi (A:=[]) (B:=[]) (F:=F) (u:=u) (c':=c') (by simpa using hc) hj hF;simpa using this
theorem zOx(hc:c'=j)(hj:j<m){q:PV}:ble (c' + [q].length) (agg (zAY F m)).cells.length=true:=by
 have:=zPN (A:=[]) (B:=[]) (F:=F) (q:=q) (c':=c') (by simpa using hc) hj;simpa using this
theorem zPC{n:Nat}(hj:j<m)(hn:beq n 1=true:=by kernel_rfl):sub (.agg (zAY F m)) (j*n) none=some (I (F.getD j 0)):=by
 rw[bc hn,fi];exact zXe hj
end
section
variable {l:LI} {r i c c' k:Nat} {pre:zA4}
theorem zJz:∀ (l:LI) (c:Nat),zBR r pre i c (l.map I)=l.map I
 |[],_=>rfl|x::l,c=>by simp only[bM,zBR,zJz l (c+1)];rfl
theorem zYL(hc:c'=c)(h:c+k<=l.length):zNo r pre i c' k (.agg (l.map I))=some (true,((l.drop c).take k).map I):=by
 subst hc;have hb:ble (c'+k) (agg (l.map I)).cells.length=true:=by rw[fG];simpa[PV.cells] using h
 simp only[zNo,hb,cond_true,PV.isAgg];show some (true,zBR r pre i c' (((l.map I).drop c').take k))=_
 rw[<- fe,<- fd,zJz]
theorem zXj{K:Nat}(hc:c'=c)(h:c+K<=l.length)(hk:beq k K=true):zNo r pre i c' k (.agg (l.map I))=some (true,((l.drop c).take K).map I):=by rw[bc hk];exact zYL hc h
theorem zXH{K m:Nat}(hl:l.length=m)(hc:c'=c)(h:c+K<=m)(hk:beq k K=true):zNo r pre i c' k (.agg (zAY l m))=some (true,zAY ((l.drop c).take K) K):=by
 rw[zEG hl,zXj (K:=K) hc (by omega) hk,zEG (F:=(l.drop c).take K) (by rw[bY,d7];omega)]
theorem zSR{P:Program}{t:TypeId}{l m:LI}(k:Nat)(hl:l.length=k)(hm:m.length=k)(h:zLD P t k=true:=by kernel_rfl):zHT P .neq t (.agg (zAY l k)) (.agg (zAY m k))=some (.bool (!decide (l=m))):=by
 rw[zEG hl,zEG hm];exact zWm k hl hm h
end
end Go.Eng
namespace Go.Eng
open Go
theorem zDl{a b m k M:Nat}(h:beq m M=true)(h2:beq k 1=true):a*m+b*k=a*M+b:=by rw[bc h,bc h2,fi]
theorem zC0{a m M:Nat}(h:beq m M=true):a*m=a*M:=by rw[bc h]
theorem zDr{a b m k M:Nat}(h:beq m M=true)(h2:beq k 1=true):0+a*m+b*k=a*M+b:=by rw[dh];exact zDl h h2
theorem zDg{a m M:Nat}(h:beq m M=true):0+a*m=a*M:=by rw[dh];exact zC0 h
theorem zBF{α:Type}{g:α->PV}{l:List α}{u:α}{y:PV}(h:g u=y):l.map g++[y]=(l++[u]).map g:=by rw[<- h,cB];rfl
def zVQ(P:Program)(e:Env)(o:Oper):Option (Nat×PV×PV) :=
 match o.op,o.dst with
 | .call c,none=>match c.callee,c.args.toList,c.argTypes.toList with
  |.builtin .clear,[x],t::_=>match(zB5 P t).bind (zCS P),(zB5 P t).bind (szT P) with
   |some q,some s=>some (s,q,zY3 e x)|_,_=>none
  |_,_,_=>none
 |_,_=>none
section
variable [Yo] {P:Program} {H:zBh} {f:FuncId} {i:Nat} {c:Code} {R:Env->Option Log->Prop}
theorem zMi{α:Type}{g:α->PV}{pre:zA4}(put':PV->PV)(r s lo n:Nat)(l:List α)(u:α){st:RS}(uM:lo+n<=l.length)(hu:(g u).plain=true/\(g u).cells.length=s)(hy:∀ x,zYr s (g x) (g u))(L:zOo pre put')
  (h:WS P H f c (i+1) ⟨none,st.e.set r (put' (.own s ((l.take lo++replicate n u++l.drop (lo+n)).map g))),none⟩ R) (he:st.e.get r=put' (.own s (l.map g)):=by kernel_rfl) (ho:zVQ P st.e (zD9 c i)=some (s,g u,.bor r pre s lo n):=by kernel_rfl) (hs:blt 0 s=true:=by kernel_rfl)
  (js:st.dr=none:=by kernel_rfl) (uc:st.lg=none:=by kernel_rfl) (hg:zLK c i st.e=true:=by kernel_rfl) (hi:blt i (zER c).size=true:=by kernel_rfl):WS P H f c i st R:=by
 obtain⟨dr,e,lg⟩:=st;simp only at js h he ho hg uc;subst js;subst uc;obtain⟨e',g1,g2,g3⟩:=zGU L he (j:=lo) (ys:=replicate n (g u)) (by simpa using uM) fun a x y hx u9=>by
  rw[ce] at hx;obtain⟨x',_,rfl⟩:=bm.1 hx;obtain⟨hn,hy2⟩:=bf.1 u9;rw[fJ] at hy2;subst hy2;obtain⟨_,_,h3,h4,h5,h6⟩:=hy x';exact⟨h3,h4,h5,h6⟩
 have yY:∀ t,e'.get t=(e.set r (put' (.own s ((l.take lo++replicate n u++l.drop (lo+n)).map g)))).get t:=fun t=>by
  rw[Env.get_set];split
  ·rename_i h;subst h;rw[g1];simp
  ·rename_i h;exact g2 t h
 refine zYl (s:=⟨none,e,none⟩) (e':=e') ⟨0,fun m _=>?_⟩ (zV8 h fun t=>yY t) rfl rfl hg hi;show(opM P H _ _ _ (zD9 c i)).run _ e=_
 generalize zD9 c i=o at ho;cases hop:o.op<;>simp only[zVQ,hop] at ho<;>try (cases ho;done)
 rename_i cc;cases kO:o.dst<;>rw[kO] at ho<;>simp only at ho<;>try (cases ho;done)
 split at ho
 ·rename_i x t ts hc ha hT;split at ho
  ·rename_i q s' hq yz;simp only[ba,bw] at ho;obtain⟨rfl,rfl,hx⟩:=ho;simp only[opM,hop,zKq,hc,ha,hT,zBB,kO];rw[zOU hx (by simp)];simp only[zSm,hs,cz,hu.1,hu.2,dH,cond_true,hq,yz];rw[g3];rfl
  ·cases ho
 ·cases ho
end
end Go.Eng
namespace Go.Eng
open Go
section
variable [Yo] {P:Program} {H:zBh} {f:FuncId} {nt:Nat} {c:Code} {e:Env} {lg:Option Log} {K:X->Env->Option Log->Prop}
end
end Go.Eng
namespace Go.Eng
open Go
theorem zQd[Yo]{P:Program}{H:zBh}{f:FuncId}{nt:Nat}{e:Env}{lg:Option Log}{K:X->Env->Option Log->Prop}{σ:Type}{c:Code}{t g:Nat}{first caps:List PV}{xs:List (List PV)}(hY:zGr g first caps xs)(Inv:Nat->σ->Prop)(upd:σ->List (Nat×PV))(s:σ)(hi:Inv 0 s)
  (h:∀ j x s,xs[j]? = some x->Inv j s->zMc P H f nt (zXW c) (rgA c) (rgB c) x (zMt (upd s) e) fun y e3=>match y with
   |.norm=>∃ s',Inv (j+1) s'/\after nt [] (zXN c) (zMt (upd s) e) e3=zMt (upd s') e|y=>K y (after nt [] (zXN c) (zMt (upd s) e) e3) none) (hK:∀ s,Inv xs.length s->K .norm (zMt (upd s) e) none) (hs:e=zMt (upd s) e:=by kernel_rfl) (yO:zD1 e t=some (g,first,caps,[]):=by kernel_rfl) (hc:rgT c=some t:=by kernel_rfl) (hl:lg=none:=by kernel_rfl):W P H f nt c e lg K :=
 zXl (t:=t) hY Inv (fun s=>zMt (upd s) e) s hi h hK hs yO hc hl
end Go.Eng
namespace Go.Eng
open Go
theorem zOo.field(A B:List PV):zOo [(0,A.length)] (fun q=>.box (.agg (A++q::B))):=fun f z xs=>by
 have h1:(A++own z xs::B)[A.length]? = some (.own z xs):=by simp
 simp only[zAz,zA9,bJ,PV.cells,h1]
 cases f (.own z xs) with
 |none=>rfl|some q=>simp[zAK,zAF]
end Go.Eng
namespace Go.Eng
open Go
theorem zGj(l:LI):zAt (l.map I)=l.map I:=zAq l
theorem zIm(k:IntKind)(l:LI):zAt (l.map (int k))=l.map (int k):=zAq l
theorem zFs(l:List Bool):zAt (l.map bool)=l.map bool:=zAq l
theorem zAv{α:Type}{g g':α->PV}(l:List α)(h:∀ x,zA2 (g x)=g' x:=by intro x;simp only[zA2,zAt,zGj,zFs,zIm]):zAt (l.map g)=l.map g':=by
 induction l with
 |nil=>rfl|cons x l ih=>simp only[bM,zAt,h,ih]
theorem zAO{xs ys:List PV}(h:zAt xs=ys):zAt ((xs.drop 0).take xs.length)=ys:=by rw[dY,cF];exact h
theorem zG5{r z:Nat}{xs ys:List PV}(h:zAt xs=ys):PV.mapW (inl r [] (.own z xs)) (.bor r [] z 0 xs.length) = .sl ys:=by
 have e:zAT r [] r []=true:=by simp[zAT]
 have e2:ble (0+xs.length) xs.length=true:=by simp
 simp only[PV.mapW,inl,e,cond_true];show zFH (zAC (.own z xs) []) (zCl 0 xs.length)=_
 simp only[zAC,zFH,zCl,e2,cond_true];rw[zAO h]
def zO6 (P:Program) (t:TypeId) (k1 k2:IntKind):Bool := !P.eqGuardType P.depth t && !P.stoodInHeld t&&match P.underlying t with
  | some (.struct fs)=>match fs.toList with
    | [f1, f2] => !decide (f1.name = "_") && !decide (f2.name = "_") && decide (shT P f1.type = some none) && decide (shT P f2.type = some none) && decide (f1.offset = 0) && decide (f2.offset = 1) &&
      (match P.underlying f1.type with|some (.int k)=>decide (k=k1)|_=>false)&&(match P.underlying f2.type with|some (.int k)=>decide (k=k2)|_=>false)
    |_=>false
  |_=>false
theorem zRK{P:Program}{t:TypeId}{k1 k2:IntKind}{a b c d:Int}(h:zO6 P t k1 k2=true):eqV P t (.agg [.int k1 a,.int k2 b]) (.agg [.int k1 c,.int k2 d])=some (decide (a=c)&&decide (b=d)):=by
 unfold zO6 at h;rw[bb,bb] at h;obtain⟨⟨h1,h2⟩,h3⟩:=h;split at h3
 ·rename_i fs hu;split at h3
  ·rename_i f1 f2 hl;simp only[bb,decide_eq_true_eq,bD,decide_eq_false_iff_not] at h1 h2 h3;obtain⟨⟨⟨⟨⟨⟨⟨n1,n2⟩,s1⟩,s2⟩,o1⟩,o2⟩,u1⟩,u2⟩:=h3;split at u1
   ·rename_i k1' jX;split at u2
    ·rename_i k2' vd;simp only[decide_eq_true_eq] at u1 u2;subst u1;subst u2;simp only[eqV,h1,cond_false,eqT,hu,h2,hl,zVD,n1,n2,s1,s2,o1,o2,sub,jX,vd,if_true,if_false,bJ,fb];by_cases e1:a=c
     ·subst e1;by_cases e2:b=d
      ·subst e2;simp
      ·simp[e2]
     ·simp[e1]
    ·cases u2
   ·cases u1
  ·cases h3
 ·cases h3
theorem zTp{P:Program}{t:TypeId}{k1 k2:IntKind}{a b c d:Int}(h:zO6 P t k1 k2=true:=by kernel_rfl):zHT P .neq t (.agg [.int k1 a,.int k2 b]) (.agg [.int k1 c,.int k2 d])=some (.bool (!(decide (a=c)&&decide (b=d)))):=by
 simp only[zHT,zRK h,bu]
theorem zXF{P:Program}{t:TypeId}{k1 k2:IntKind}{a b c d:Int}(h:zO6 P t k1 k2=true:=by kernel_rfl):zHT P .eql t (.agg [.int k1 a,.int k2 b]) (.agg [.int k1 c,.int k2 d])=some (.bool (decide (a=c)&&decide (b=d))):=by
 simp only[zHT,zRK h,bu]
section
variable {α:Type} {g:α->PV} {l:List α} {i z:Nat} {b:PV}
theorem zYM(h:i<l.length):((l.map g).set i b)[i]? = some b:=by simp[h]
end
def zIW(P:Program)(t:TypeId):Bool:=match P.underlying t with|some (.slice _)=>true|_=>false
theorem zW6{P:Program}{t:TypeId}{p:PV}{z:Nat}(he:zFt p=true)(hp:(match p with|.nils _=>false|.agg _=>false|_=>true)=true:=by rfl)(h:zIW P t=true:=by kernel_rfl):eqV P t p (.nils z)=some false:=by
 unfold zIW at h;split at h
 ·rename_i e hu;unfold eqV;rw[hu];cases p<;>first|(cases hp;done)|simp only[he,cond_true]
 ·cases h
theorem zVF{P:Program}{t:TypeId}{p:PV}{z:Nat}(he:zFt p=true)(hp:(match p with|.nils _=>false|.agg _=>false|_=>true)=true:=by rfl)(h:zIW P t=true:=by kernel_rfl):(eqV P t p (.nils z)).map bool=some (.bool false):=by rw[zW6 he hp h];rfl
theorem zAW{xs:List PV}:take xs.length (drop 0 xs)=xs:=by rw[dY,cF]
def zYz[Yo](P:Program)(H:zBh)(f:FuncId)(fn:Func)(nh:Nat)(Q:PV->List PV->Prop)(x:X)(e:Env)(lg:Option Log):Prop:=∃ v h,zQq P H f fn nh v h x e lg/\Q v h
section
variable [Yo] {P:Program} {H:zBh} {f:FuncId} {e:Env} {lg:Option Log}
theorem E_q{fn:Func}{nh:Nat}{Q:PV->List PV->Prop}{x:X}(as:Ans){obs:List Prop}(ho:zTr obs)(v':PV)(h':List PV)(hQ:Q v' h')(hf:zH2 P H f fn as e nh=some ((v',h'),obs):=by kernel_rfl)(hl:lg=none:=by kernel_rfl)(hx:x = .norm\/x = .ret:=by first|exact .inr rfl|exact .inl rfl):zYz P H f fn nh Q x e lg:=⟨v',h',E_a as ho v' h' rfl rfl hf hl hx,hQ⟩
theorem zNu(fn:Func){args hid:List PV}(Q:PV->List PV->Prop)(h:W P H f fn.ntmps (fn.body.getD .ret) (zBg args hid) none (zYz P H f fn hid.length Q))(hf:P.funcs[f]? = some fn:=by kernel_rfl)(hi:(H f).intr=0:=by kernel_rfl)(hb:fn.body.isSome=true:=by kernel_rfl)
  (hc:(ble args.length fn.ntmps&&ble hid.length 1000&&args.all (fun p=>!p.isTup))=true:=by kernel_rfl):∃ v h,zBM P H f args hid v h/\Q v h:=by
 obtain⟨n0,x,e1,lg1,h1,v,h',h2,h3⟩:=h;exact⟨v,h',zAe fn ⟨n0,x,e1,lg1,h1,h2⟩ hf hi hb hc,h3⟩
end
theorem zS9{f:PV->PV}:∀ l:LI,zCB f (l.map I)=l.map I
 |[]=>rfl|x::l=>by rw[bM,zCB,zS9 l];rfl
theorem zTG{f:PV->PV}:∀ l:List Bool,zCB f (l.map bool)=l.map bool
 |[]=>rfl|x::l=>by rw[bM,zCB,zTG l];rfl
theorem zUQ{α:Type}{g:α->PV}{l:List α}(h:0<l.length):zFt (.sl (l.map g))=true:=by
 cases l with
 |nil=>exact absurd h (fK _)|cons x l=>rfl
theorem zN3{P:Program}{t:TypeId}{z:Nat}{α:Type}{g:α->PV}{l:List α}(hp:0<l.length)(h:zIW P t=true:=by kernel_rfl):zHT P .eql t (.sl (l.map g)) (.nils z)=some (.bool false):=by
 have:=zVF (P:=P) (t:=t) (z:=z) (zUQ (g:=g) hp) rfl h;simpa[zHT] using this
class FrzOf {α:Type} (g:α->PV) (g':outParam (α->PV)):Prop where
 frz:∀ x,zA2 (g x)=g' x
theorem zAw{α:Type}{g g':α->PV}[h:FrzOf g g'](l:List α):zAt (l.map g)=l.map g':=zAv l h.frz
section
variable {α:Type} {g:α->PV} {l:List α} {i z:Nat} {b:PV} {u0:α}
end
theorem zSf[Yo]{P:Program}{H:zBh}{f:FuncId}{nt:Nat}{e:Env}{lg:Option Log}{K:X->Env->Option Log->Prop}{c:Code}(n:Nat)(e1 ef:Env)(h1:e1=ef)(h:K (.ex n) ef lg)(hc:zRy c=some n:=by kernel_rfl)(he:zXJ ((H f).ices n) e=e1:=by kernel_rfl):W P H f nt c e lg K:=by
 rw[zNT hc];refine zV2 ?_;rw[he,h1];exact h
end Go.Eng
namespace Go.Eng
open Go
theorem zGu{r z:Nat}{pre:zA4}{xs ys:List PV}(h:zAt xs=ys):PV.mapW (inl r pre (.own z xs)) (.bor r pre z 0 xs.length) = .sl ys:=by
 have e:zAT r pre r pre=true:=by simp[zAT]
 have e2:ble (0+xs.length) xs.length=true:=by simp
 simp only[PV.mapW,inl,e,cond_true,List.drop_length];show zFH (zAC (.own z xs) []) (zCl 0 xs.length)=_
 simp only[zAC,zFH,zCl,e2,cond_true];rw[zAO h]
theorem zO7[Yo]{P:Program}{H:zBh}{f:FuncId}{nt:Nat}{e:Env}{lg:Option Log}{K:X->Env->Option Log->Prop}{σ:Type}{c:Code}(Inv:σ->Prop)(upd:σ->List (Nat×PV))(D:LN) (h1:W P H f nt (cl c) e lg fun x e' lg'=>match x with
   |.norm=>∃ s,Inv s/\e'=zMt (upd s) (e.drop D)/\lg'=lg|x=>K x e' lg') (h2:∀ s,Inv s->W P H f nt (cr c) (zMt (upd s) (e.drop D)) lg K) (hc:zRZ c=true:=by kernel_rfl):W P H f nt c e lg K :=
 zAc (zRU h1 fun x e' lg' h=>by
  cases x with
  |norm=>obtain⟨s,hs,rfl,rfl⟩:=h;exact h2 s hs
  |_=>exact h) hc
theorem E_z[Yo]{P:Program}{H:zBh}{f:FuncId}{fn:Func}{nh:Nat}{v:PV}{h:List PV}{x:X}{e:Env}{lg:Option Log}(as:Ans){obs:List Prop}(ho:zTr obs)(hf:zH2 P H f fn as e nh=some ((v,h),obs):=by kernel_rfl)(hl:lg=none:=by kernel_rfl)(hx:x = .norm\/x = .ret:=by first|exact .inr rfl|exact .inl rfl):zQq P H f fn nh v h x e lg:=E_a as ho v h rfl rfl hf hl hx
theorem E_0[Yo]{P:Program}{H:zBh}{f:FuncId}{fn:Func}{nh:Nat}{v:PV}{h:List PV}{x:X}{e:Env}{lg:Option Log}(hf:zH2 P H f fn [] e nh=some ((v,h),[]):=by kernel_rfl)(hl:lg=none:=by kernel_rfl)(hx:x = .norm\/x = .ret:=by first|exact .inr rfl|exact .inl rfl):zQq P H f fn nh v h x e lg:=E_a [] an v h rfl rfl hf hl hx
theorem blz(l:List PV):(0+l.length).ble l.length=true:=by rw[dh];exact Nat.ble_self_eq_true _
theorem frT{α:Type}(g:α->PV)(l:List α)(h:∀ x,zA2 (g x)=g x:=by intro x;simp only[zA2,zAt,zGj,zFs,zIm]):sl (zAt (take (map g l).length (drop 0 (map g l))))=sl (map g l):=zJ7 (zAO (zAv l h))
theorem frC{α:Type}(g g':α->PV)[FrzOf g g'](l:List α):sl (zAt (take (map g l).length (drop 0 (map g l))))=sl (map g' l):=zJ7 (zAO (zAw l))
theorem lnS{α:Type}(g:α->PV)(l:List α):some (map g l).length=some l.length:=by rw[be]
theorem wrN(i:Nat)(h:(i:Int)+1<9223372036854775808:=by omega):int IntKind.i64 (IntKind.i64.wrap ((i:Int)+1))=int IntKind.i64 ((i+1:Nat):Int):=zCj (by omega) (by omega)
theorem zAn[Yo]{P:Program}{H:zBh}{f:FuncId}{nt:Nat}{e:Env}{lg:Option Log}{K:X->Env->Option Log->Prop}{c:Code}(m:Nat)(h:WS P H f (cl c) (0+m) (zT7 (zEJ P H f (cl c) m 0 {dr:=bif zMH (cl c) then some ([],[]) else none,e:=e,lg:=lg})) (zY0 P H f nt (cr c) K .norm))(h1:zRZ c=true:=by kernel_rfl)(h2:zVu (cl c)=true:=by kernel_rfl)(h3:(zEJ P H f (cl c) m 0 {dr:=bif zMH (cl c) then some ([],[]) else none,e:=e,lg:=lg}).isSome=true:=by kernel_rfl)(h4:(0+m).ble (zER (cl c)).size=true:=by kernel_rfl):W P H f nt c e lg K:=zAc (zAb (zAp m h h3 h4) h2) h1
theorem S_i[Yo]{P:Program}{H:zBh}{f:FuncId}{c:Code}{j:Nat}{s:RS}{R:Env->Option Log->Prop}(i:Nat)(h:WS P H f c (j+1) (rsX (zVV P H f c j [(1,.v (.int .i64 ((i+1:Nat):Int)))] s)) R)(hb:(i:Int)+1<9223372036854775808:=by omega)(hq:(zVV P H f c j [(1,.v (.int .i64 ((i+1:Nat):Int)))] s).map (·.2)=some [int .i64 (IntKind.i64.wrap ((i:Int)+1))=int .i64 ((i+1:Nat):Int)]:=by kernel_rfl)(hi:blt j (zER c).size=true:=by kernel_rfl):WS P H f c j s R:=S_a _ (ap (wrN i hb) an) h hq hi
theorem rnd{σ:Type}{P Q A B:σ->Prop}(s:σ)(h1:P s)(h2:Q s)(h3:A s:=by kernel_rfl)(h4:B s:=by kernel_rfl):∃ s,P s/\Q s/\A s/\B s:=⟨s,h1,h2,h3,h4⟩
theorem S_g[Yo]{P:Program}{H:zBh}{f:FuncId}{c:Code}{i:Nat}{s:RS}{R:Env->Option Log->Prop}(m:Nat)(h:R (((zT7 (zEJ P H f c m i s)).e.drop ((H f).drop (rid c))).norm) (zT7 (zEJ P H f c m i s)).lg)(hs:(zEJ P H f c m i s).isSome=true:=by kernel_rfl)(hi:ble (i+m) (zER c).size=true:=by kernel_rfl)(he:ble (zER c).size (i+m)=true:=by kernel_rfl):WS P H f c i s R:=zAp m (zA6 h he) hs hi
theorem zAj[Yo]{P:Program}{H:zBh}{f:FuncId}{nt:Nat}{e:Env}{lg:Option Log}{K:X->Env->Option Log->Prop}{c:Code}(m:Nat)(h:zY0 P H f nt (cr c) K .norm (((zT7 (zEJ P H f (cl c) m 0 {dr:=bif zMH (cl c) then some ([],[]) else none,e:=e,lg:=lg})).e.drop ((H f).drop (rid (cl c)))).norm) (zT7 (zEJ P H f (cl c) m 0 {dr:=bif zMH (cl c) then some ([],[]) else none,e:=e,lg:=lg})).lg)(h1:zRZ c=true:=by kernel_rfl)(h2:zVu (cl c)=true:=by kernel_rfl)(h3:(zEJ P H f (cl c) m 0 {dr:=bif zMH (cl c) then some ([],[]) else none,e:=e,lg:=lg}).isSome=true:=by kernel_rfl)(h4:(0+m).ble (zER (cl c)).size=true:=by kernel_rfl)(h5:ble (zER (cl c)).size (0+m)=true:=by kernel_rfl):W P H f nt c e lg K:=zAn m (zA6 h h5) h1 h2 h3 h4
abbrev zs(F:LI)(i k:Nat):PV:=int IntKind.i64 ((F.set i (i:Int)).getD k 0)
abbrev z8(i:Nat):PV:=int IntKind.i64 ((replicate 8 (0:Int)).getD i 0)
end Go.Eng
