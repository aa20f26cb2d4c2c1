/- No zAk that is tried has a lesser spread than the closest one; a settled zAk where all may cry all. -/
import Derived.Test.YtpmbobnmpehobaaPd
import Derived.ProofKit
import Derived.ChangeArms
import Derived.Test.YtpmbobnmpehobaaProg
import Derived.Test.YtpmbobnmpehobaaPa
import Derived.Test.YtpmbobnmpehobaaRows
set_option linter.unusedVariables false
set_option linter.unusedSimpArgs false
set_option linter.unusedSectionVars false
namespace Go.Eng
open Go Go.ChangeShapes Go.WideShapes Go.ChangeAt Go.RowKit
section
variable {H:Type} {enc:TypeId×Value→H} {P:Program}
theorem zM5 {f:Func} {s:ChangeSpec} {apart fresh jW again:Bool} {W W':World} {args:Array Value} {v:Value} {ds gs:List (DataW H)} {before pa pv:List MemPlace}
  (hW:DataW.Whole enc P f.params.toList s.vars apart W args.toList ds gs before)
  (ya:∀ (b:Nat) (sp:Nat→Bool) (hd:Bool),DataW.TrodAll enc P W' b sp hd f.resultTypes.toList (v.resultList f.resultTypes.size) (s.fn H (ds++gs)).results [])
  (yH:∀ sp:Nat→Bool,(∀ p∈before,sp p.block=true)→DataW.TrodAll enc P W' 0 sp true f.params.toList args.toList (s.fn H (ds++gs)).args pa)
  (jj:∀ sp:Nat→Bool,(∀ p∈before,sp p.block=true)→DataW.TrodVars enc P W' sp s.vars (s.fn H (ds++gs)).vars pv)
  (yc:before=pa++pv) (hold':∀ b,b<W.heap.size→W'.heap[b]? = W.heap[b]?) (hk:W.keptBut W' (· ∈ before))
  (yE:∀ (j:Nat) (t:TypeId) (r:Value),f.resultTypes[j]? = some t→(v.resultList f.resultTypes.size)[j]? = some r→Value.okWide P W' .any 0 t r) :
  s.post enc P f apart fresh jW again W args v W':=by
 have yL:=hW.lt
 have hold:∀ p∈before,(fun b=>decide (b<W.heap.size)) p.block=true:=fun p hp=>by simpa using yL p hp
 refine ⟨ds,gs,before,[],pa,pv,hW,ya _ _ _,yH _ hold,jj _ hold,World.keptBut_mono (fun p hp=>⟨hp,?_⟩) hk,fun _=>?_⟩
 ·rw [yc,List.mem_append] at hp
  exact Or.inr hp
 ·obtain ⟨_,_,_,_,_,hz,hn⟩:=hW
  refine ⟨yE,_,_,([]++pa)++pv,⟨[]++pa,pv,trodAll_append (yH _ (fun _ _=>rfl)) (ya _ _ _),jj _ (fun _ _=>rfl),rfl,?_,?_⟩,?_⟩
  ·intro b off hp
   have je:MemPlace.cell b off∈before:=by rw [yc];simpa using hp
   have h1:=hz b off je
   have h2:=yL _ je
   unfold World.frozen? at h1 ⊢
   rw [hold' b h2];exact h1
  ·intro ha
   have:=hn ha
   rw [yc] at this
   simpa using this
  ·intro p hp _
   rw [yc]
   simpa using hp
theorem zGW {W W':World} {sp':Nat→Bool} (hl:laidOutB P=true) (hb:Below W.heap.size W W'):∀ {ts:List TypeId} {vs:List Value} {ds:List (DataW H)} {ps:List MemPlace},(∀ t∈ts,P.readableRec t=true∧t<P.types.size)→DataW.TrodAll enc P W 0 (fun _=>true) true ts vs ds ps→(∀ x∈ps,x.block<W.heap.size)→(∀ x∈ps,sp' x.block=true) →
  DataW.TrodAll enc P W' 0 sp' true ts vs ds ps
 | [],vs,ds,ps,_,h,_,_=>by
  obtain ⟨rfl,rfl,rfl⟩:=trodAll_nil h
  exact trodAll_mk0
 | t::ts,vs,ds,ps,ht,h,yL,hs=>by
  obtain ⟨v,vs',d,ds',p,q,rfl,rfl,rfl,h1,h2⟩:=trodAll_cons h
  exact ⟨p,q,WideElems.Trod_stays hl (ht t (by simp)).1 (ht t (by simp)).2 h1 (fun x hx=>hb.same (yL x (by simp [hx]))) (fun x hx=>hs x (by simp [hx])),zGW hl hb (fun t h=>ht t (by simp [h])) h2 (fun x hx=>yL x (by simp [hx])) (fun x hx=>hs x (by simp [hx])),rfl⟩
theorem zRX {f:Func} {s:ChangeSpec} {apart fresh jW again:Bool} {W W':World} {args:Array Value} {ds:List (DataW H)} {before:List MemPlace} {tb:TypeId} (hl:laidOutB P=true) (jj:s.vars=[]) (htb:P.underlying tb=some .bool) (wS:f.resultTypes=#[tb]) (uq:∀ t∈f.params.toList,P.readableRec t=true∧t<P.types.size)
  (kD:s.fn H ds={results:=[.lit (.bool true)],args:=ds}) (hW:DataW.Whole enc P f.params.toList s.vars apart W args.toList ds [] before)
  (h1:W.heap.size≤W'.heap.size) (h2:∀ b,b<W.heap.size→W'.heap[b]? = W.heap[b]?) (h3:W'.os=W.os) (h4:W'.tape=W.tape) (h5:W'.output=W.output):s.post enc P f apart fresh jW again W args (.bool true) W':=by
 have yL:=hW.lt
 have hb:Below W.heap.size W W':=⟨h3,h4,h5,h1,h2⟩
 obtain ⟨pa,pv,hA,hV,yc,hz,hn⟩:=id hW
 have hpv:pv=[]:=by
  rw [jj] at hV
  exact (trodVars_none hV).2
 subst hpv
 have hrl:(Value.bool true).resultList f.resultTypes.size=[.bool true]:=by rw [wS];rfl
 have gS:s.fn H (ds++[])={results:=[.lit (.bool true)],args:=ds}:=by rw [List.append_nil];exact kD
 have wZ:∀ x∈pa,x.block<W.heap.size:=fun x hx=>yL x (by rw [yc];simp [hx])
 refine zM5 (pa:=pa) (pv:=[]) hW (fun b sp hd=>?_) (fun sp yS=>?_) (fun sp yS=>?_) yc h2 ?_ ?_
 ·rw [hrl,wS,gS];exact trodAll_mk1 (shut_bool htb true)
 ·rw [gS];exact zGW hl hb uq hA wZ (fun x hx=>yS x (by rw [yc];simp [hx]))
 ·rw [jj,gS];rfl
 ·refine ⟨h3,h5,fun i hi=>?_⟩
  rw [h2 i hi]
  cases W.heap[i]? with
  | none=>rfl
  | some o=>cases o<;>first | exact ⟨rfl,rfl,rfl,fun _ _=>rfl⟩ | exact .inr ⟨rfl,rfl⟩ | rfl
 ·exact ok_one wS rfl (okWide_bool_mk htb true)
end
end Go.Eng
namespace Go.Eng
open Go
section
variable {w:World} {Φ:Nat→Prop} {A:Al}
end
end Go.Eng
namespace Go.Eng
open Go
section
variable {P:Program} {H:zBh}
theorem zPN {f:FuncId} {fn:Func} (h:P.funcs[f]? = some fn):fn∈P.funcs.toList:=by
 rw [← Array.getElem?_toList] at h
 exact List.mem_of_getElem? h
theorem zKR (h : (P.funcs.toList.all fun fn => !(fn.name == "runtime.NumGoroutine")) = true) : zER P := fun f fn hf => by
  have:=List.all_eq_true.1 h fn (zPN hf)
  simpa using this
theorem zVt (h:((List.range P.funcs.size).all fun f=>bif Nat.beq (H f).intr 0 then (match P.funcs[f]? with
  | some fn=>zTy P fn
  | none=>true) else true)=true):Fit P H:=fun f fn hf hi=>by
 have yL:=(Array.getElem?_eq_some_iff.1 hf).1
 have:=List.all_eq_true.1 h f (List.mem_range.2 yL)
 rw [hi,hf] at this
 exact this
end
end Go.Eng
namespace Go.Eng
open Go Go.ChangeShapes Go.WideShapes Go.ChangeAt Go.RowKit
inductive Sh where
 | num (k:IntKind)
 | bool
 | list (ag:Bool) (parts:List Sh)
mutual
def zVS:Sh→PV→Prop
 | .num k,p=>∃ n,p = .int k n∧k.min≤n∧n≤k.max
 | .bool,p=>∃ b,p = .bool b
 | .list ag ss,p=>∃ xs,p = .sl xs∧xs.length≤maxLen∧∀ x∈xs,zEw ss x.cells∧x.isAgg=ag
def zEw:List Sh→List PV→Prop
 | [],ps=>ps=[]
 | s::ss,ps=>∃ p qs,ps=p::qs∧zVS s p∧zEw ss qs
end
def zTl (P:Program) (t:TypeId):Bool :=
 match P.underlying t with
 | some (.struct _)=>true
 | _=>false
def zG3 (P:Program) (sh:TypeId→Option (List Sh)) (n:Nat):List Field→Nat→Option (List Sh)
 | [],off=>if off=n then some [] else none
 | f::fs,off=>if f.offset=off then match sh f.type with
  | some a=>if a.length=P.cellsOf f.type then (zG3 P sh n fs (off+P.cellsOf f.type)).map (a++·) else none
  | none=>none else none
def zD1 (P:Program):Nat→TypeId→Option (List Sh)
 | 0,_=>none
 | n + 1,t=>match P.underlying t with
  | some (.int k)=>some [.num k]
  | some .bool=>some [.bool]
  | some (.slice e)=>match zD1 P n e with
   | some ss=>if ss.length=P.cellsOf e∧0<ss.length∧(zTl P e=true∨ss.length=1) then some [.list (zTl P e) ss] else none
   | none=>none
  | some (.struct fs)=>zG3 P (zD1 P n) (P.cellsOf t) fs.toList 0
  | _=>none
section
variable {H:Type} {enc:TypeId×Value→H} {P:Program} {w:World} {spare:Nat→Bool} {vR:Bool} {Φ:Nat→Prop} {base:Nat}
theorem zEw.app:∀ {a b:List Sh} {p q:List PV},zEw a p→zEw b q→zEw (a++b) (p++q)
 | [],b,p,q,h1,h2=>by simp only [zEw] at h1;subst h1;exact h2
 | s::a,b,p,q,h1,h2=>by
  obtain ⟨x,xs,rfl,h3,h4⟩:=h1
  exact ⟨x,xs++q,rfl,h3,zEw.app h4 h2⟩
theorem zEw.length:∀ {a:List Sh} {p:List PV},zEw a p→p.length=a.length
 | [],p,h=>by simp only [zEw] at h;subst h;rfl
 | s::a,p,h=>by
  obtain ⟨x,xs,rfl,_,h4⟩:=h
  simp [zEw.length h4]
theorem zL7 {sh:TypeId→Option (List Sh)} {N n:Nat} {cs:List Value} (j2:cs.length=N) (ih:∀ t (vs:List Value) x ss,sh t=some ss→DataW.trod enc P w 0 spare vR n t vs=some x→∃ ps,zEw ss ps∧zAZ w Φ zCn ps vs []) :
  ∀ (fs:List Field) (off:Nat) (ss:List Sh),zG3 P sh N fs off=some ss→(∀ f∈fs,∃ y,DataW.trod enc P w 0 spare vR n f.type ((cs.drop f.offset).take (P.cellsOf f.type))=some y)→off≤N→∃ ps,zEw ss ps∧zAZ w Φ zCn ps (cs.drop off) []
 | [],off,ss,h,_,yK=>by
  simp only [zG3] at h
  split at h
  ·rename_i he
   cases h
   exact ⟨[],rfl,by rw [List.drop_eq_nil_of_le (by omega)];exact ⟨rfl,rfl⟩⟩
  ·cases h
 | f :: fs,off,ss,h,hf,yK=>by
  simp only [zG3] at h
  split at h
  ·rename_i ho
   cases hs:sh f.type with
   | none=>rw [hs] at h;cases h
   | some a =>
    rw [hs] at h;simp only at h
    split at h
    ·rename_i uD
     obtain ⟨b,hb,rfl⟩:=Option.map_eq_some_iff.1 h
     obtain ⟨y,hy⟩:=hf f (by simp)
     rw [ho] at hy
     obtain ⟨ps,h1,h2⟩:=ih _ _ _ _ hs hy
     have hl:=h2.length
     have vi:=h1.length
     simp only [List.length_take,List.length_drop] at hl
     have qx:off+P.cellsOf f.type≤N:=by omega
     obtain ⟨qs,h3,h4⟩:=zL7 j2 ih fs _ b hb (fun g hg=>hf g (by simp [hg])) qx
     refine ⟨ps++qs,h1.app h3,?_⟩
     have:=h2.append h4
     rw [← List.drop_drop,List.take_append_drop] at this
     exact this
    ·cases h
  ·cases h
theorem zQi {s:Nat} {ag:Bool} {ss:List Sh} (hs:0<s) (j6:ag=true∨s=1):∀ (len:Nat) (c:List Value),c.length=len*s→(∀ i,i<len→∃ ps,zEw ss ps∧ps.length=s∧zAZ w Φ zCn ps ((c.drop (i*s)).take s) []) →
  ∃ (xs:List PV) (us:List Value),xs.length=len∧(∀ x∈xs,zEw ss x.cells∧x.isAgg=ag∧x.cells.length=s)∧(∀ u∈us,u.cells.size=s)∧us.map zCf=xs.map PV.isAgg∧c=flat us∧zAZ w Φ zCn xs us []
 | 0,c,hc,_=>⟨[],[],rfl,by simp,by simp,rfl,by rw [Nat.zero_mul] at hc;rw [List.eq_nil_of_length_eq_zero hc];rfl,rfl,rfl⟩
 | len + 1,c,hc,h=>by
  obtain ⟨ps,h1,h2,h3⟩:=h 0 (by omega)
  simp only [Nat.zero_mul,List.drop_zero] at h3
  have yP:(c.take s).length=s:=by simp;rw [hc,Nat.add_mul];omega
  obtain ⟨xs,us,g1,g2,g3,g4,g5,g6⟩:=zQi hs j6 len (c.drop s) (by simp [hc,Nat.add_mul]) (fun i hi=>by
   obtain ⟨ps,h1,h2,h3⟩:=h (i+1) (by omega)
   refine ⟨ps,h1,h2,?_⟩
   rw [List.drop_drop,show s+i*s=(i+1)*s by rw [Nat.add_mul];omega];exact h3)
  have jJ:c=c.take s++c.drop s:=(List.take_append_drop s c).symm
  cases ag with
  | true =>
   refine ⟨.agg ps::xs,.agg (c.take s).toArray::us,by simp [g1],fun x hx=>?_,fun u hu=>?_,by simp [zCf,PV.isAgg,g4],?_,⟨_,us,[],[],rfl,rfl,⟨_,rfl,by simpa using h3⟩,g6⟩⟩
   ·rcases List.mem_cons.1 hx with rfl | hx
    ·exact ⟨h1,rfl,h2⟩
    ·exact g2 x hx
   ·rcases List.mem_cons.1 hu with rfl | hu
    ·simpa [Value.cells] using yP
    ·exact g3 u hu
   ·conv=>lhs;rw [jJ]
    rw [g5];rfl
  | false =>
   have uh:s=1:=by
    rcases j6 with h | h
    ·cases h
    ·exact h
   subst uh
   obtain ⟨p,rfl⟩:=List.length_eq_one_iff.1 h2
   obtain ⟨u,hu⟩:=List.length_eq_one_iff.1 yP
   rw [hu] at h3 jJ
   obtain ⟨u',us',L1,L2,he,hL,h4,h5⟩:=h3
   cases he
   obtain ⟨rfl,rfl⟩:=List.append_eq_nil_iff.1 hL.symm
   have yI:p.isAgg=false∧p.cells=[p]∧u.cells=#[u]∧zCf u=false:=by
    obtain ⟨p',qs,hp,hfp,_⟩:∃ p' qs,[p]=p'::qs∧(∃ s,zVS s p')∧True:=by
     cases ss with
     | nil=>simp only [zEw] at h1;cases h1
     | cons s ss=>obtain ⟨x,xs,h6,h7,_⟩:=h1;exact ⟨x,xs,h6,⟨s,h7⟩,trivial⟩
    cases hp
    obtain ⟨s,hfp⟩:=hfp
    cases s with
    | num k=>obtain ⟨n,rfl,_⟩:=hfp;obtain ⟨rfl,_⟩:=h4;exact ⟨rfl,rfl,rfl,rfl⟩
    | bool=>obtain ⟨n,rfl⟩:=hfp;obtain ⟨rfl,_⟩:=h4;exact ⟨rfl,rfl,rfl,rfl⟩
    | list ag' ss' =>
     obtain ⟨ys,rfl,_⟩:=hfp
     obtain ⟨_,⟨_,a,n,rfl,_⟩ | ⟨a,n,c',us',sz,rfl,_⟩⟩:=h4<;>exact ⟨rfl,rfl,rfl,rfl⟩
   refine ⟨p::xs,u::us,by simp [g1],fun x hx=>?_,fun v hv=>?_,by simp [yI.1,yI.2.2.2,g4],?_,⟨u,us,[],[],rfl,rfl,h4,g6⟩⟩
   ·rcases List.mem_cons.1 hx with rfl | hx
    ·rw [yI.2.1];exact ⟨h1,yI.1,rfl⟩
    ·exact g2 x hx
   ·rcases List.mem_cons.1 hv with rfl | hv
    ·rw [yI.2.2.1];rfl
    ·exact g3 v hv
   ·conv=>lhs;rw [jJ]
    rw [g5];simp only [flat,List.flatMap_cons,yI.2.2.1]
theorem zNA : ∀ (n m:Nat) (t:TypeId) (vs:List Value) (x:DataW H×List MemPlace) (ss:List Sh),zD1 P n t=some ss→DataW.trod enc P w 0 spare vR m t vs=some x→∃ ps,zEw ss ps∧zAZ w (fun b=>b<w.heap.size) zCn ps vs []
 | 0,m,t,vs,x,ss,h,_=>by cases h
 | n + 1, m, t,vs,x,ss,h,hx=>by
  simp only [zD1] at h
  split at h
  ·rename_i k ht
   cases h
   obtain ⟨i,rfl,_,hw⟩:=DataW.trod_int ht hx
   simp only [Lit.wf,Bool.and_eq_true,decide_eq_true_eq] at hw
   exact ⟨[.int k i],⟨_,[],rfl,⟨i,rfl,hw.1,hw.2⟩,rfl⟩,_,_,[],[],rfl,rfl,⟨rfl,rfl⟩,rfl,rfl⟩
  ·rename_i ht
   cases h
   obtain ⟨b,rfl,_⟩:=DataW.trod_bool ht hx
   exact ⟨[.bool b],⟨_,[],rfl,⟨b,rfl⟩,rfl⟩,_,_,[],[],rfl,rfl,⟨rfl,rfl⟩,rfl,rfl⟩
  ·rename_i e ht
   cases j3:zD1 P n e with
   | none=>rw [j3] at h;cases h
   | some es =>
    rw [j3] at h;simp only at h
    split at h
    ·rename_i hc
     cases h
     obtain ⟨j1,jJ,uO⟩:=hc
     rcases DataW.trod_slice ht hx with ⟨rfl,_⟩ | ⟨a,len,cap,zVO,rest,k,_,rfl,_,_,hlc,hcm,jG,uY,_⟩
     ·exact ⟨[.sl []],⟨_,[],rfl,⟨[],rfl,Nat.zero_le _,by simp⟩,rfl⟩,_,_,[],[],rfl,rfl,⟨rfl,.inl ⟨rfl,_,_,rfl,fun _=>rfl⟩⟩,rfl,rfl⟩
     ·by_cases h0:len=0
      ·subst h0
       exact ⟨[.sl []],⟨_,[],rfl,⟨[],rfl,Nat.zero_le _,by simp⟩,rfl⟩,_,_,[],[],rfl,rfl,⟨rfl,.inl ⟨rfl,_,_,rfl,fun h=>by cases h⟩⟩,rfl,rfl⟩
      have zA9:∀ i,i<len→∃ (cs:List Value) (y:DataW H×List MemPlace),cs.length=P.cellsOf e∧(∀ j,j<P.cellsOf e→w.cell? ((a.add (i*P.cellsOf e)).add j)=cs[j]?)∧DataW.trod enc P w 0 spare vR k e cs=some y:=by
       intro i hi
       have:=uY i hi
       rw [List.getElem?_eq_getElem (by omega)] at this
       obtain ⟨cs,h1,h2⟩:=Option.bind_eq_some_iff.1 this
       obtain ⟨_,h3,h4⟩:=World.cells?_some h1
       exact ⟨cs,_,h3,h4,h2⟩
      obtain ⟨cs0,_,h00,h01,_⟩:=zA9 0 (by omega)
      have yN:=h01 0 (by omega)
      rw [List.getElem?_eq_getElem (by omega)] at yN
      have yS:a.spot=none∧∃ row el fr,w.heap[a.block]? = some (.cells row el fr):=by
       simp only [Nat.zero_mul,Addr.add,if_true,World.cell?] at yN
       cases hb:w.heap[a.block]? with
       | none=>rw [hb] at yN;cases yN
       | some o =>
        cases o<;>rw [hb] at yN<;>simp only at yN<;>try (cases yN;done)
        rename_i row el fr
        cases hs:a.spot with
        | some s=>rw [hs] at yN;cases yN
        | none=>exact ⟨rfl,row,el,fr,rfl⟩
      obtain ⟨y8,row,el,fr,yB⟩:=yS
      have kb:∀ i j,i<len→j<P.cellsOf e→w.cell? ((a.add (i*P.cellsOf e)).add j)=row[a.off+(i*P.cellsOf e+j)]?:=by
       intro i j hi hj
       have key:∀ m:Nat,(a.add m).block=a.block∧(a.add m).off=a.off+m∧(a.add m).spot=none:=by
        intro m
        unfold Addr.add
        split
        ·rename_i h;subst h;exact ⟨rfl,rfl,y8⟩
        ·exact ⟨rfl,rfl,by simp⟩
       have key2:∀ m j:Nat,w.cell? ((a.add m).add j)=row[a.off+(m+j)]?:=by
        intro m j
        obtain ⟨k1,k2,k3⟩:=key m
        by_cases h:j=0
        ·subst h
         simp only [Addr.add,if_true,World.cell?] at *
         rw [k1,yB];simp only;rw [k3,k2];simp
        ·have:(a.add m).add j=⟨a.block,a.off+m+j,none⟩:=by
          generalize a.add m=a1 at k1 k2 k3
          unfold Addr.add
          rw [if_neg h,k1,k2]
         rw [this]
         simp only [World.cell?,yB]
         rw [Nat.add_assoc];rfl
       exact key2 _ _
      have jK:=zQi (w:=w) (Φ:=fun b=>b<w.heap.size) (ss:=es) jJ (by rw [j1] at uO ⊢;exact uO) len (seg row a.off (len*P.cellsOf e)) ?_ ?_
      ·obtain ⟨xs,us,g1,g2,g3,g4,g5,g6⟩:=jK
       refine ⟨[.sl xs],⟨_,[],rfl,⟨xs,rfl,by omega,fun x hx=>⟨(g2 x hx).1,(g2 x hx).2.1⟩⟩,rfl⟩,_,_,[],[],rfl,rfl,⟨rfl,.inr ⟨a,cap,row,us,P.cellsOf e,by rw [g1],y8,by omega,(Array.getElem?_eq_some_iff.1 yB).1,⟨el,fr,yB⟩,?_,⟨?_,g4⟩,by rw [g1];exact g5,g6⟩⟩,rfl,rfl⟩
       ·intro x hx;rw [← j1];exact (g2 x hx).2.2
       ·intro u hu;rw [← j1];exact g3 u hu
      ·
       have:=zA9 (len-1) (by omega)
       obtain ⟨cs,_,h1,h2,_⟩:=this
       have h3:=h2 (P.cellsOf e-1) (by omega)
       rw [kb _ _ (by omega) (by omega),List.getElem?_eq_getElem (by omega)] at h3
       have h4:=(Array.getElem?_eq_some_iff.1 h3).1
       have h5:(len-1)*P.cellsOf e+P.cellsOf e=len*P.cellsOf e:=by
        obtain ⟨l,rfl⟩:∃ l,len=l+1:=⟨len-1,by omega⟩
        rw [Nat.add_sub_cancel,Nat.add_mul];omega
       simp only [seg,List.length_take,List.length_drop,Array.length_toList,j1]
       omega
      ·intro i hi
       obtain ⟨cs,y,h1,h2,h3⟩:=zA9 i hi
       obtain ⟨ps,h4,h5⟩:=zNA n k e cs y es j3 h3
       refine ⟨ps,h4,by rw [h4.length],?_⟩
       have:((seg row a.off (len*P.cellsOf e)).drop (i*es.length)).take es.length=cs:=by
        rw [j1]
        apply List.ext_getElem?
        intro j
        have w6:i*P.cellsOf e+P.cellsOf e≤len*P.cellsOf e:=by
         have:(i+1)*P.cellsOf e≤len*P.cellsOf e:=Nat.mul_le_mul_right _ (by omega)
         rw [Nat.add_mul] at this;omega
        simp only [seg,List.getElem?_take,List.getElem?_drop]
        split
        ·rename_i hj
         rw [if_pos (by omega),Array.getElem?_toList,← kb i j hi hj,h2 j hj]
        ·rw [List.getElem?_eq_none (by omega)]
       rw [this];exact h5
    ·cases h
  ·rename_i fs ht
   obtain ⟨xs,k,_,_,hl,v9,hf⟩:=DataW.trod_struct ht hx
   obtain ⟨ps,h1,h2⟩:=zL7 (Φ:=fun b=>b<w.heap.size) hl (fun t vs x ss h1 h2=>zNA n k t vs x ss h1 h2) fs.toList 0 ss h (fun f yn=>by
    obtain ⟨i,hi⟩:=List.getElem?_of_mem yn
    have qL:fs[i]? = some f:=by rw [← Array.getElem?_toList];exact hi
    have yL:=(Array.getElem?_eq_some_iff.1 qL).1
    exact ⟨xs[i]'(by omega), by rw [hf i f qL, List.getElem?_eq_getElem (by omega)]⟩) (Nat.zero_le _)
   exact ⟨ps,h1,by simpa using h2⟩
  ·cases h
def zUI (x:Bool×List Sh) (p:PV):Prop:=if x.1 then ∃ cs,p = .agg cs∧zEw x.2 cs else zEw x.2 [p]
def zLg:List (Bool×List Sh)→List PV→Prop
 | [],ps=>ps=[]
 | s::ss,ps=>∃ p qs,ps=p::qs∧zUI s p∧zLg ss qs
def zE6 (P:Program):List TypeId→Option (List (Bool×List Sh))
 | []=>some []
 | t::ts=>match zD1 P 20 t,zE6 P ts with
  | some ss,some rest=>if zTl P t=true∨ss.length=1 then some ((zTl P t,ss)::rest) else none
  | _,_=>none
theorem zLg.length:∀ {ss:List (Bool×List Sh)} {ps:List PV},zLg ss ps→ps.length=ss.length
 | [],ps,h=>by simp only [zLg] at h;subst h;rfl
 | s::ss,ps,h=>by
  obtain ⟨p,qs,rfl,_,h2⟩:=h
  simp [zLg.length h2]
theorem zQM {n:Nat} {t:TypeId} {ss:List Sh} (h:zD1 P n t=some ss) (ha:zTl P t=false):(∃ k,P.underlying t=some (.int k))∨P.underlying t=some .bool∨∃ e,P.underlying t=some (.slice e):=by
 cases n with
 | zero=>cases h
 | succ n =>
  simp only [zD1] at h
  split at h
  ·exact .inl ⟨_,by assumption⟩
  ·exact .inr (.inl (by assumption))
  ·exact .inr (.inr ⟨_,by assumption⟩)
  ·rename_i fs ht
   simp only [zTl,ht] at ha;cases ha
  ·cases h
theorem zRx : ∀ (ts:List TypeId) (vs:List Value) (ds:List (DataW H)) (ps:List MemPlace) (ss:List (Bool×List Sh)),zE6 P ts=some ss→DataW.TrodAll enc P w 0 spare vR ts vs ds ps→(∀ (j:Nat) t v,ts[j]? = some t→vs[j]? = some v→Value.okWide P w .any base t v) →
  ∃ qs,zLg ss qs∧zAZ w (fun b=>b<w.heap.size) zCn qs vs []
 | [],vs,ds,ps,ss,hs,h,_=>by
  obtain ⟨rfl,_,_⟩:=trodAll_nil h
  cases hs
  exact ⟨[],rfl,rfl,rfl⟩
 | t :: ts,vs,ds,ps,ss,hs,h,hv=>by
  obtain ⟨v,vs',d,ds',p,q,rfl,rfl,rfl,⟨fuel,h1⟩,h2⟩:=trodAll_cons h
  simp only [zE6] at hs
  cases yZ:zD1 P 20 t with
  | none=>rw [yZ] at hs;cases hs
  | some s =>
   cases yd:zE6 P ts with
   | none=>rw [yZ,yd] at hs;cases hs
   | some rest =>
    rw [yZ,yd] at hs
    simp only at hs
    split at hs
    ·rename_i hc
     cases hs
     obtain ⟨qs,g1,g2⟩:=zRx ts vs' ds' q rest yd h2 (fun j t v ht yC=>hv (j+1) t v (by simpa using ht) (by simpa using yC))
     obtain ⟨cs,g3,g4⟩:=zNA 20 fuel t v.cells.toList _ s yZ h1
     have yE:=hv 0 t v rfl rfl
     cases ha:zTl P t with
     | true =>
      have wy:∃ fs,P.underlying t=some (.struct fs):=by
       simp only [zTl] at ha
       split at ha
       ·exact ⟨_,by assumption⟩
       ·cases ha
      obtain ⟨fs,ht⟩:=wy
      obtain ⟨row,rfl,_⟩:=okWide_struct ht yE
      exact ⟨.agg cs::qs,⟨_,_,rfl,by simp only [zUI,if_true];exact ⟨cs,rfl,g3⟩,g1⟩,_,_,[],[],rfl,rfl,⟨row,rfl,g4⟩,g2⟩
     | false =>
      have yI:v.cells.toList=[v]:=by
       rcases zQM yZ ha with ⟨k,ht⟩ | ht | ⟨e,ht⟩
       ·obtain ⟨n,rfl⟩:=okWide_int ht yE;rfl
       ·obtain ⟨n,rfl⟩:=okWide_bool ht yE;rfl
       ·obtain ⟨a,n,c,rfl⟩:=okWide_slice ht yE;rfl
      rw [yI] at g4
      obtain ⟨u,us,L1,L2,he,hL,g5,g6⟩:∃ u us L1 L2,cs=u::us∧([]:List Nat)=L1++L2∧Rep w (fun b=>b<w.heap.size) zCn u v L1∧zAZ w (fun b=>b<w.heap.size) zCn us [] L2:=by
       cases cs with
       | nil=>have:=g4.length;simp at this
       | cons u us =>
        obtain ⟨v',vs'',L1,L2,he,hL,g5,g6⟩:=g4
        cases he
        exact ⟨u,us,L1,L2,rfl,hL,g5,g6⟩
      obtain ⟨rfl,rfl⟩:=List.append_eq_nil_iff.1 hL.symm
      have wO:us=[]:=List.eq_nil_of_length_eq_zero (by have:=g6.length;simp at this;omega)
      subst wO;subst he
      exact ⟨u::qs,⟨_,_,rfl,by simp only [zUI,Bool.false_eq_true,if_false];exact g3,g1⟩,_,_,[],[],rfl,rfl,g5,g2⟩
    ·cases hs
theorem zQz {α:Type} {R:α→Prop} {enc:α→PV}:∀ {xs:List PV},(∀ x∈xs,∃ a,x=enc a∧R a)→∃ l:List α,xs=l.map enc∧∀ a∈l,R a
 | [],_=>⟨[],rfl,by simp⟩
 | x :: xs,h=>by
  obtain ⟨a,rfl,ha⟩:=h x (by simp)
  obtain ⟨l,rfl,hl⟩:=zQz (xs:=xs) fun y hy=>h y (by simp [hy])
  exact ⟨a::l,rfl,fun b hb=>by
   rcases List.mem_cons.1 hb with rfl | hb
   ·exact ha
   ·exact hl b hb⟩
theorem zSa {k:IntKind} {p:PV} (h:zVS (.list false [.num k]) p):∃ l:List Int,p = .sl (l.map (.int k))∧l.length≤maxLen∧∀ n∈l,k.min≤n∧n≤k.max:=by
 obtain ⟨xs,rfl,hl,hx⟩:=h
 obtain ⟨l,rfl,hb⟩:=zQz (α:=Int) (R:=fun n=>k.min≤n∧n≤k.max) (enc := .int k) (xs:=xs) fun x uH=>by
  obtain ⟨⟨q,qs,hc,⟨n,rfl,hn⟩,qq⟩,ha⟩:=hx x uH
  simp only [zEw] at qq;subst qq
  refine ⟨n,?_,hn⟩
  cases x<;>simp [PV.cells] at hc<;>first | exact hc | simp_all [PV.isAgg]
 exact ⟨l,rfl,by simpa using hl,hb⟩
theorem zIK:∀ {ts:List TypeId} {vs:List Value} {ds:List (DataW H)} {ps:List MemPlace},DataW.TrodAll enc P w 0 spare vR ts vs ds ps→ds.length=ts.length
 | [],vs,ds,ps,h=>by obtain ⟨_,rfl,_⟩:=trodAll_nil h;rfl
 | t::ts,vs,ds,ps,h=>by
  obtain ⟨_,_,_,_,_,_,rfl,rfl,_,_,h2⟩:=trodAll_cons h
  simp [zIK h2]
theorem zTS {Hh:zBh} {f:FuncId} {fn:Func} {s:ChangeSpec} {apart fresh jW again:Bool} {W:World} {args:Array Value} {ds:List (DataW H)} {before:List MemPlace} {tb:TypeId} {ss:List (Bool×List Sh)} (zFi:P.follows .mixedOrders=true) (hnm:zER P) (zMK:Fit P Hh) (hin:zES P Hh)
  (hl:laidOutB P=true) (jj:s.vars=[]) (htb:P.underlying tb=some .bool) (wS:fn.resultTypes=#[tb]) (uq:fn.params.toList.all (fun t=>P.readableRec t&&Nat.blt t P.types.size)=true) (kD:∀ ds,ds.length=fn.params.size→s.fn H ds={results:=[.lit (.bool true)],args:=ds}) (kZ:zE6 P fn.params.toList=some ss) (hO:ss.length≤1000)
  (hg:∀ qs,zLg ss qs→@zBm (yo1 P Hh) P Hh f qs [] (.bool true) [])
  (u6:∀ (j:Nat) t v,fn.params[j]? = some t→args[j]? = some v→Value.okWide P W .any base t v) (hW:DataW.Whole enc P fn.params.toList s.vars apart W args.toList ds [] before) :
  Calls P f args W fun e W'=>∃ v,e = .returned v∧s.post enc P fn apart fresh jW again W args v W':=by
 obtain ⟨pa,pv,hA,_,_,_,_⟩:=id hW
 obtain ⟨qs,kf,wW⟩:=zRx fn.params.toList args.toList ds pa ss kZ hA (fun j t v ht hv=>u6 j t v (by rw [← Array.getElem?_toList];exact ht) (by rw [← Array.getElem?_toList];exact hv))
 have hql:=kf.length
 refine (zQj (Φ:=fun b=>b<W.heap.size) zFi hnm zMK hin (hg qs kf) (fun b hb=>hb) wW (by rw [hql];exact Nat.le_trans hO (by decide))).mono fun e W' ⟨he,g1,g2,g3,g4,g5⟩=>?_
 subst he
 refine ⟨_,rfl,zRX hl jj htb wS (fun t ht=>?_) (kD ds (by have:=zIK hA;simpa using this)) hW g1 g2 g3 g4 g5⟩
 have:=List.all_eq_true.1 uq t ht
 rw [Bool.and_eq_true] at this
 exact ⟨this.1,zBY this.2⟩
end
end Go.Eng
namespace Go.Eng
open Go
section
variable {P:Program} {H:zBh}
def zFL (f:FuncId):zBh:=fun g=>bif Nat.beq g f then {} else {intr:=9}
theorem zO3 (zFi:P.follows .mixedOrders=true) (hnm:zER P) {f:FuncId} {fn:Func} (hf:P.funcs[f]? = some fn) (yE:zTy P fn=true) (n:Nat):zGf P (@zCx P (zFL f) yo0 n):=by
 refine @zE3 P (zFL f) yo0 zFi hnm (fun g gn hg hi=>?_) (fun g gn args hid v hid' hg hi hr=>?_) (fun g first i caps k plan h=>by cases h) n
 ·cases hb:Nat.beq g f with
  | true =>
   rw [Nat.eq_of_beq_eq_true hb,hf] at hg
   cases hg;exact yE
  | false=>simp [zFL,hb] at hi
 ·cases hb:Nat.beq g f with
  | true=>exact absurd (by simp [zFL,hb]) hi
  | false =>
   have e:(zFL f g).intr=9:=by simp [zFL,hb]
   rw [e] at hr
   simp [zDQ] at hr
theorem zOE {α:Type} {f:Nat→α} {s:Nat} {v:α} (h:f s=v):upd f s v=f:=by
 funext t
 by_cases ht:t=s
 ·subst ht;rw [zAh,h]
 ·rw [zAf ht]
theorem zKD {f:FuncId} {p q v:PV} (hp:p.heavy=false) {w:World} {Φ:Nat→Prop} {rv:Nat→Value} {E:Nat→PV} {L:Nat→List Nat} {vs:Array Value} (hE:∀ s,s<zAb→E s=(zA5 [q] []).get s) (kY:∀ s,zAb≤s→E s = .bad)
  (C:Conf w (fun b=>∃ s,b∈L s) Φ w Φ rv E L) (yD:vs.size=1) (yq:∀ i,i<1→vs[i]? = some (rv i)) (jb:∀ s,1≤s→s<zAl→rv s=undef) (hL0:L 0=[]) (hr:Rep w Φ (zA2 w rv E) p (rv 0) []) (h:zGd P f [p] [] v []) :
  Calls P f vs w fun e w'=>∃ u Φ' rv' E' L',e = .returned u∧Conf w (fun b=>∃ s,b∈L s) Φ w' Φ' rv' E' L'∧([]:List PV).length=([]:List PV).length ∧
   (∀ j,j<([]:List PV).length→E' (zAl+j)=([]:List PV).getD j .bad∧rv' (zAl+j)=rv (zAl+j))∧Gave v u rv' E':=by
 have C1:=C.put (s:=0) hp hr
 rw [zOE hL0,zOE rfl] at C1
 have h1:(1:Nat)≤zAl:=by decide
 have hg:(0:Nat)<zAb:=by decide
 refine h w Φ rv (upd E 0 p) L vs (fun s hs=>?_) (fun s hs=>?_) C1 yD yq jb
 ·by_cases h:s=0
  ·subst h;rw [zAh];rfl
  ·rw [zAf h,hE s hs,zDm (args:=[q]) h1,zDm (args:=[p]) h1]
   simp [h,show ¬ s<1 by omega]
 ·rw [zAf (by omega)];exact kY s hs
theorem zRv {f:FuncId} {v:PV} (h1:zGd P f [.nils 0] [] v []) (h2:zGd P f [.nn] [] v []):zGd P f [.sl []] [] v []:=by
 intro w Φ rv E L vs hE kY C yD yq jb
 have h0:E 0 = .sl []:=by rw [hE 0 (by decide)];rfl
 have hr:=C.rep 0
 rw [h0] at hr
 obtain ⟨hL0,hc⟩:=hr
 have hc:∃ a n,rv 0 = .slice a 0 n∧(a=none→n=0):=by
  rcases hc with ⟨_,a,n,hv,ha⟩ | ⟨a,n,c,us,sz,hv,_⟩
  ·exact ⟨a,n,hv,ha⟩
  ·exact ⟨some a,n,hv,fun h=>by cases h⟩
 obtain ⟨a,n,hv,ha⟩:=hc
 cases a with
 | none =>
  rw [ha rfl] at hv
  exact zKD (p := .nils 0) rfl hE kY C yD yq jb hL0 ⟨hv,rfl⟩ h1
 | some a=>exact zKD (p := .nn) rfl hE kY C yD yq jb hL0 ⟨rfl,a,n,hv⟩ h2
theorem zPa {f:FuncId} {v:PV} {k:Nat} (h1:zGd P f [.nils 0] [] v []):zGd P f [.nils k] [] v []:=by
 intro w Φ rv E L vs hE kY C yD yq jb
 have h0:E 0 = .nils k:=by rw [hE 0 (by decide)];rfl
 have hr:=C.rep 0
 rw [h0] at hr
 exact zKD (p := .nils 0) rfl hE kY C yD yq jb hr.2 ⟨hr.1,rfl⟩ h1
theorem zOx (zFi:P.follows .mixedOrders=true) (hnm:zER P) {f:FuncId} {fn:Func} (hf:P.funcs[f]? = some fn) (hb:fn.body.isSome=true) (yE:zTy P fn=true) {sz:Nat} (yD:(fn.resultTypes[0]?).bind (fun t=>(zBX P t).bind (szT P))=some sz)
  (r1:∃ n,@zCx P (zFL f) yo0 n f [.nils 0] []=some (.own sz [],[])) (r2:∃ n,@zCx P (zFL f) yo0 n f [.nn] []=some (.own sz [],[]))
  (r3:∀ x xs,(∀ y∈x::xs,y.plain=true∧y.cells.length=sz)→(x::xs).length≤zAI→∃ n,@zCx P (zFL f) yo0 n f [.sl (x::xs)] []=some (.own sz (x::xs),[])) :
  ∀ args hid v hid',zDQ P fn 1 args hid=some (v,hid')→zCS P f∧zGd P f args hid v hid':=by
 have so:=zO3 zFi hnm hf yE
 have hc:zCS P f:=⟨fn,hf,by cases hx:fn.body with
  | none=>rw [hx] at hb;cases hb
  | some _=>rfl⟩
 obtain ⟨n1,r1⟩:=r1
 obtain ⟨n2,r2⟩:=r2
 have m1:zGd P f [.nils 0] [] (.own sz []) []:=(so n1 _ _ _ _ _ r1).2
 have m2:=(so n2 _ _ _ _ _ r2).2
 intro args hid v hid' h
 refine ⟨hc,?_⟩
 rcases args with _ | ⟨p,_ | ⟨p2,ps⟩⟩
 ·simp [zDQ] at h
 ·rcases hid with _ | ⟨q,qs⟩
  ·cases p<;>first | (simp [zDQ] at h;done) | skip
   ·rename_i k
    simp only [zDQ,yD,Option.some.injEq,Prod.mk.injEq] at h
    obtain ⟨rfl,rfl⟩:=h
    exact zPa m1
   ·rename_i xs
    simp only [zDQ,yD] at h
    split at h
    ·rename_i hx
     simp only [Option.some.injEq,Prod.mk.injEq] at h
     obtain ⟨rfl,rfl⟩:=h
     simp only [Bool.and_eq_true,decide_eq_true_eq,List.all_eq_true] at hx
     cases xs with
     | nil=>exact zRv m1 m2
     | cons x xs =>
      obtain ⟨n3,r3⟩:=r3 x xs (fun y hy=>by simpa using hx.1 y hy) hx.2
      exact (so n3 _ _ _ _ _ r3).2
    ·cases h
  ·simp [zDQ] at h
 ·simp [zDQ] at h
theorem zEa [Yo] {f:FuncId} {fn:Func} {sz:Nat} {α:Type} (g:α→PV) (l:List α) (hl:l.length≤4294967296) (hg:∀ x,((g x).plain&&Nat.beq (g x).cells.length sz)=true:=by intro x;kernel_rfl) (hf:P.funcs[f]? = some fn:=by kernel_rfl) (hi:(H f).intr=1:=by kernel_rfl)
  (yD:(fn.resultTypes[0]?).bind (fun t=>(zBX P t).bind (szT P))=some sz:=by kernel_rfl):zBm P H f [.sl (l.map g)] [] (.own sz (l.map g)) []:=by
 refine ⟨1,fun n hn=>?_⟩
 obtain ⟨k,rfl⟩:∃ k,n=k+1:=⟨n-1,by omega⟩
 show zIe P H (zCx P H k) Yo.yo zB8 (k+1) f _ _=_
 have jI:((l.map g).all (fun x=>x.plain&&decide (x.cells.length=sz))&&decide ((l.map g).length≤zAI))=true:=by
  simp only [List.all_map,Bool.and_eq_true,List.all_eq_true,List.length_map,decide_eq_true_eq,Function.comp]
  refine ⟨fun x _=>?_,hl⟩
  have:=hg x
  simp only [Bool.and_eq_true] at this
  exact ⟨this.1,Nat.eq_of_beq_eq_true this.2⟩
 simp only [Bool.and_eq_true,decide_eq_true_eq] at jI
 simp only [zIe,hf,hi,zDQ,yD]
 rw [if_pos (by decide),if_pos (by simpa using jI)]
theorem zKr {f:FuncId} {args:List PV} {v:PV} (h:@zBm yo0 P (zFL f) f args [] v []):∃ n,@zCx P (zFL f) yo0 n f args []=some (v,[]):=by
 obtain ⟨n,h⟩:=h
 exact ⟨n,h n (Nat.le_refl _)⟩
theorem zSe (cl:List FuncId) (h:((List.range P.funcs.size).all fun f=>Nat.beq (H f).intr 0||Nat.beq (H f).intr 9||(Nat.beq (H f).intr 1&&cl.any (Nat.beq f)))=true)
  (hc:∀ f∈cl,∀ fn,P.funcs[f]? = some fn→∀ args hid v hid',zDQ P fn 1 args hid=some (v,hid')→zCS P f∧zGd P f args hid v hid'):zES P H:=fun f fn args hid v hid' hf hi hr=>by
 have yL:=(Array.getElem?_eq_some_iff.1 hf).1
 have:=List.all_eq_true.1 h f (List.mem_range.2 yL)
 rw [Bool.or_eq_true,Bool.or_eq_true,Bool.and_eq_true] at this
 rcases this with (h1 | h1) | ⟨h1,h2⟩
 ·exact absurd (Nat.eq_of_beq_eq_true h1) hi
 ·rw [Nat.eq_of_beq_eq_true h1] at hr
  simp [zDQ] at hr
 ·rw [Nat.eq_of_beq_eq_true h1] at hr
  obtain ⟨g,hg,hb⟩:=List.any_eq_true.1 h2
  rw [Nat.eq_of_beq_eq_true hb] at hf ⊢
  exact hc g hg fn hf args hid v hid' hr
end
end Go.Eng
set_option maxRecDepth 100000
namespace Go.Eng
open Go Go.Proofs
def idV (p:PV):PV:=p
theorem zKu (xs:List PV):xs.map idV=xs:=by
 induction xs with
 | nil=>rfl
 | cons x xs ih=>rw [List.map_cons,ih];rfl
theorem zGx:∀ {l:List PV},(∀ y∈l,y.plain=true)→zBy l=[]
 | [],_=>rfl
 | p::ps,h=>by
  rw [zBy,(zKZ (h p (by simp))).2,zGx fun y hy=>h y (by simp [hy])];rfl
theorem zS7 {xs:List PV} {sz n:Nat} (h:∀ y∈xs,y.plain=true∧y.cells.length=sz) (hn:Nat.beq sz n=true):((xs.map idV).all fun y=>y.cells.length.beq n&&y.cells.all fun q=>q.oneCell)=true:=by
 rw [zKu,List.all_eq_true]
 intro y hy
 rw [Bool.and_eq_true]
 exact ⟨by rw [(h y hy).2];exact hn,List.all_eq_true.2 fun q hq=>zJD (h y hy).1 q hq⟩
theorem zUR {xs:List PV} {sz:Nat} (h:∀ y∈xs,y.plain=true∧y.cells.length=sz):((xs.map idV).all fun x=>x.plain)=true:=by
 rw [zKu,List.all_eq_true];exact fun y hy=>(h y hy).1
section
variable [Yo]
theorem zVj:zBm Try.prog (zFL 109) 109 [.nils 0] [] (.own 1 []) []:=zBm.closed 50
theorem zU6:zBm Try.prog (zFL 109) 109 [.nn] [] (.own 1 []) []:=zBm.closed 50
theorem zVq (xs:List PV) (h:∀ y∈xs,y.plain=true∧y.cells.length=1) (hH:0<xs.length) (hl:xs.length≤4294967296):zBm Try.prog (zFL 109) 109 [.sl (xs.map idV)] [] (.own 1 (xs.map idV)) []:=by
 refine zAi Try.f109 ?_
 refine zAc (zAa (zAe 1 (zAd (zAc (zAc (zAa (zAe 1 (S_a [(0,.v (PV.bool false))] (ap (zPG (by omega):zNB Try.prog BinOp.eql 22 (PV.sl (List.map idV xs)) (zEg (Value.slice none 0 0))=some (PV.bool false)) an) (zAd (zBE (zAx (zAc (zAa (zAe 2 (S_a [(0,.ob),(0,.ob),(0,.ob),(3,.ob)] (ap (zUR h:((List.map idV xs).all fun x=>x.plain)=true) (ap (zS7 h (by kernel_rfl):((List.map idV xs).all fun y=>y.cells.length.beq ((fun x=>x.size) Try.prog.types[3])&&y.cells.all fun q=>q.oneCell)=true) (ap (?_:(zBy (List.map idV xs)).isEmpty=true) (ap ((by exact zAL (by simp only [List.length_map,zzLn,zAI]<;>omega)):(0+(List.map idV xs).length).ble zAI=true) an)))) (zAe 1 (zAd (zAJ (E_a [(1,.yes),(1,.v (PV.own 1 (List.map idV (List.take ([]++List.map idV xs).length xs))))] (ap ((by exact zAL (by simp only [List.length_map,zzLn,zAI]<;>omega)):(0+([]++List.map idV xs).length).ble ([]++List.map idV xs).length=true) (ap ((by simp [zDg]):PV.own 1 (List.take ([]++List.map idV xs).length (List.drop 0 ([]++List.map idV xs)))=PV.own 1 (List.map idV (List.take ([]++List.map idV xs).length xs))) an)) (PV.own 1 (List.map idV (List.take ([]++List.map idV xs).length xs))) ([]) (by simp [*]) rfl)))))))))))))))))))
 rw [zKu,zGx fun y hy=>(h y hy).1];rfl
theorem zV7:zBm Try.prog (zFL 68) 68 [.nils 0] [] (.own 3 []) []:=zBm.closed 50
theorem zVN:zBm Try.prog (zFL 68) 68 [.nn] [] (.own 3 []) []:=zBm.closed 50
theorem zV0 (xs:List PV) (h:∀ y∈xs,y.plain=true∧y.cells.length=3) (hH:0<xs.length) (hl:xs.length≤4294967296):zBm Try.prog (zFL 68) 68 [.sl (xs.map idV)] [] (.own 3 (xs.map idV)) []:=by
 refine zAi Try.f68 ?_
 refine zAc (zAa (zAe 1 (zAd (zAc (zAc (zAa (zAe 1 (S_a [(0,.v (PV.bool false))] (ap (zPG (by omega):zNB Try.prog BinOp.eql 80 (PV.sl (List.map idV xs)) (zEg (Value.slice none 0 0))=some (PV.bool false)) an) (zAd (zBE (zAx (zAc (zAa (zAe 2 (S_a [(0,.ob),(0,.ob),(0,.ob),(3,.ob)] (ap (zUR h:((List.map idV xs).all fun x=>x.plain)=true) (ap (zS7 h (by kernel_rfl):((List.map idV xs).all fun y=>y.cells.length.beq ((fun x=>x.size) Try.prog.types[83])&&y.cells.all fun q=>q.oneCell)=true) (ap (?_:(zBy (List.map idV xs)).isEmpty=true) (ap ((by exact zAL (by simp only [List.length_map,zzLn,zAI]<;>omega)):(0+(List.map idV xs).length).ble zAI=true) an)))) (zAe 1 (zAd (zAJ (E_a [(1,.yes),(1,.v (PV.own 3 (List.map idV (List.take ([]++List.map idV xs).length xs))))] (ap ((by exact zAL (by simp only [List.length_map,zzLn,zAI]<;>omega)):(0+([]++List.map idV xs).length).ble ([]++List.map idV xs).length=true) (ap ((by simp [zDg]):PV.own 3 (List.take ([]++List.map idV xs).length (List.drop 0 ([]++List.map idV xs)))=PV.own 3 (List.map idV (List.take ([]++List.map idV xs).length xs))) an)) (PV.own 3 (List.map idV (List.take ([]++List.map idV xs).length xs))) ([]) (by simp [*]) rfl)))))))))))))))))))
 rw [zKu,zGx fun y hy=>(h y hy).1];rfl
end
theorem zS1:∀ args hid v hid',zDQ Try.prog Try.f109 1 args hid=some (v,hid')→zCS Try.prog 109∧zGd Try.prog 109 args hid v hid' :=
 zOx (f:=109) (fn:=Try.f109) (sz:=1) (by kernel_rfl) (zKR (by kernel_rfl)) (by kernel_rfl) (by kernel_rfl) (by kernel_rfl) (by kernel_rfl) (zKr (@zVj yo0)) (zKr (@zU6 yo0)) fun x xs h hl=>by
  have:=zKr (@zVq yo0 (x::xs) h (by simp) hl)
  rw [zKu] at this
  exact this
theorem zTG:∀ args hid v hid',zDQ Try.prog Try.f68 1 args hid=some (v,hid')→zCS Try.prog 68∧zGd Try.prog 68 args hid v hid' :=
 zOx (f:=68) (fn:=Try.f68) (sz:=3) (by kernel_rfl) (zKR (by kernel_rfl)) (by kernel_rfl) (by kernel_rfl) (by kernel_rfl) (by kernel_rfl) (zKr (@zV7 yo0)) (zKr (@zVN yo0)) fun x xs h hl=>by
  have:=zKr (@zV0 yo0 (x::xs) h (by simp) hl)
  rw [zKu] at this
  exact this
theorem zVv:∀ f∈[109,68],∀ fn,Try.prog.funcs[f]? = some fn→∀ args hid v hid',zDQ Try.prog fn 1 args hid=some (v,hid')→zCS Try.prog f∧zGd Try.prog f args hid v hid':=by
 intro f hf fn kD
 simp only [List.mem_cons,List.not_mem_nil,or_false] at hf
 rcases hf with rfl | rfl
 ·have e:Try.prog.funcs[109]? = some Try.f109:=by kernel_rfl
  rw [e] at kD;cases kD
  exact zS1
 ·have e:Try.prog.funcs[68]? = some Try.f68:=by kernel_rfl
  rw [e] at kD;cases kD
  exact zTG
end Go.Eng
namespace Go.Proofs.Ytpmbobnmpehobaa
open Go.ChangeShapes Go.WideShapes Go.ChangeAt Go.RowKit Go.Eng
theorem Try.own:ownKnob Try.prog.godebug=none:=by kernel_rfl
theorem Try.laidOut:laidOutB Try.prog=true:=by kernel_rfl
theorem zFi:Try.prog.follows .mixedOrders=true:=by kernel_rfl
theorem hnm:zER Try.prog:=zKR (by kernel_rfl)
theorem zMK:Fit Try.prog zAq:=zVt (by kernel_rfl)
theorem hin:zES Try.prog zAq:=zSe [109,68] (by kernel_rfl) zVv
end Go.Proofs.Ytpmbobnmpehobaa
namespace Go.Eng
open Go
theorem zPT {k:IntKind} {p:PV} (h:zUI (false,[.list false [.num k]]) p):∃ l:List Int,p = .sl (l.map (.int k))∧l.length≤maxLen∧∀ n∈l,k.min≤n∧n≤k.max:=by
 simp only [zUI,Bool.false_eq_true,if_false] at h
 obtain ⟨q,qs,hc,h,qq⟩:=h
 cases hc
 exact zSa h
end Go.Eng
namespace Go.Eng
open Go Go.Proofs
theorem zAK {α:Type} {l:List α} {i:Nat} {d:α} (h:i<l.length):l.getD i d=l[i]:=by simp [List.getD,List.getElem?_eq_getElem h]
theorem zGJ {α β:Type} {f:β→α→β} {b:β} {l:List α} {i:Nat} {d:α} (h:i<l.length):(l.take (i+1)).foldl f b=f ((l.take i).foldl f b) (l.getD i d):=by
 rw [zAK h];exact zOX h
theorem zPB {α:Type} {l m:List α} {i:Nat} {d:α} (h:i<l.length) (h':i<m.length) (ha:l.take i=m.take i) (he:l.getD i d=m.getD i d):l.take (i+1)=m.take (i+1):=by
 rw [zAK h,zAK h'] at he
 rw [List.take_add_one,List.take_add_one,ha,List.getElem?_eq_getElem h,List.getElem?_eq_getElem h',he]
theorem zSu {l:List Int} {i:Nat} (h:i<l.length):(l.take (i+1)).sum=(l.take i).sum+l.getD i 0:=by
 rw [List.take_add_one,List.getElem?_eq_getElem h,zAK h,List.sum_append];simp
theorem zTk {B:Int} {l:List Int} (hb:∀ x∈l,-B≤x∧x≤B) : -(B*l.length)≤l.sum∧l.sum≤B*l.length:=by
 induction l with
 | nil=>simp
 | cons x l ih =>
  have h1:=hb x (by simp)
  have h2:=ih fun y hy=>hb y (by simp [hy])
  simp only [List.sum_cons,List.length_cons,Int.natCast_add,Int.mul_add]
  omega
theorem zUY {l:List Int} (h:∀ x∈l,0≤x):0≤l.sum:=by
 induction l with
 | nil=>simp
 | cons x l ih =>
  have h1:=h x (by simp)
  have h2:=ih fun y hy=>h y (by simp [hy])
  simp only [List.sum_cons];omega
theorem zPO {l:List Int} {lo hi:Int} (h:(!l.all fun x=>decide (lo≤x)&&decide (x≤hi))=false):∀ x∈l,lo≤x∧x≤hi:=by
 simpa [List.all_eq_true] using h
theorem zLT {n lo hi:Int} (h:(!(decide (lo≤n)&&decide (n≤hi)))=false):lo≤n∧n≤hi:=by simpa using h
theorem zBB {l:List Int} {p:Int→Prop} (h:∀ x∈l,p x) (i:Nat) (hi:i<l.length):p (l.getD i 0):=by
 rw [zAK hi];exact h _ (List.getElem_mem hi)
theorem zGU {l:List Int} {i j:Nat} {v:Int}:(l.set i v).getD j 0=if i=j∧j<l.length then v else l.getD j 0:=by
 simp only [List.getD_eq_getElem?_getD,List.getElem?_set]
 by_cases h:i=j
 ·subst h
  by_cases h2:i<l.length
  ·simp [h2]
  ·simp [h2]
 ·simp [h]
def zVW (l:List Int):Int:=l.foldl (fun a x=>IntKind.i64.wrap (a+x)) 0
section
variable [Yo]
abbrev FG (f:FuncId) (args:List PV) (v:PV):Prop:=zBm Try.prog zAq f args [] v []
theorem f78 (n lo hi:Int):FG 78 [I n,I lo,I hi] (.bool (decide (lo≤n)&&decide (n≤hi))):=by
 refine zAi Try.f78 ?_
 refine zAc (zAa (zAe 1 (zAd (zAc (zAa (zAe 4 (zKN 10 (n≥lo) (fun k0=>(zAe 5 (zAd (zAJ (E_a [] an (PV.bool (decide (n≤hi))) ([]) (by simp [*]) rfl))))) (fun k0=>(zAe 5 (zAd (zAJ (E_a [] an (PV.bool false) ([]) (by simp [*]) rfl))))))))))))
theorem f81 (l:List Int) (hl:l.length<4294967296):FG 81 [zCm l] (I (zVW l)):=by
 refine zAi Try.f81 ?_
 refine zAc (zAa (zAe 1 (zAd (zAc (zAa (zAe 1 (zAd (zAc (zAc (zAa (zAe 1 (S_a [(0,.n (l.length))] (ap ((by simp):some (List.map I l).length=some l.length) an) (zAe 1 (zAd (zAp 0 ?_)))))))))))))))
 refine zBo (fun (i,a)=>i≤l.length∧a=zVW (l.take i)) (fun (i,a)=>[(3,I a),(8,I (i:Nat))]) (fun (i,_)=>l.length-i) ((0:Nat),(0:Int)) (by simp [zVW]) fun (i,a) ⟨hi,ha⟩=>?_
 refine zAc (zAa (zAe 1 (zAd (zAc (zCL ((↑i:Int)<(↑l.length:Int)) (fun k0=>(zAx (zAc (zAp 1 (zAc (zAa (S_a [(2,.v (I (l.getD i 0)))] (ap (zCG (0) (by omega):(List.map I l)[i]? = some (I (l.getD i 0))) an) (zAe 2 (zAd (zAa (zAe 2 (zAe 1 (zAe 1 (zAd (zAa (S_a [(1,.v (I (↑(i+1):Int)))] (ap ((zAR (by omega) (by omega)):I (IntKind.i64.wrap ((↑i:Int)+1))=I (↑(i+1):Int)) an) (zAe 1 (zAd ?_)))))))))))))))))) (fun k0=>(zBM 0 (zAc (zAa (zAe 2 (zAd (zAJ (E_a [] an (I a) ([]) ?_ rfl)))))))))))))
 ·exact ⟨(i+1,IntKind.i64.wrap (a+l.getD i 0)),⟨by omega,by rw [ha];exact (zGJ (f:=fun a x=>IntKind.i64.wrap (a+x)) (by omega)).symm⟩,by simp only;omega,by kernel_rfl,by kernel_rfl⟩
 ·rw [ha,List.take_of_length_le (by omega)]
theorem f85 (l m:List Int) (hl:l.length<4294967296):FG 85 [zCm l,zCm m] (.bool (decide (l=m))):=by
 refine zAi Try.f85 ?_
 refine zAc (zAa (zAe 1 (zAd (zAc (zAc (zAa (zAe 1 (S_a [(0,.n (l.length))] (ap ((by simp):some (List.map I l).length=some l.length) an) (zAe 1 (S_a [(0,.n (m.length))] (ap ((by simp):some (List.map I m).length=some m.length) an) (zAe 1 (zAd (zJI ((↑l.length:Int)=(↑m.length:Int)) (fun k0=>(zAc (zAa (zAe 1 (zAd (zAJ (E_a [] an (PV.bool false) ([]) ?_ rfl))))))) (fun k0=>(zAx (zAc (zAc (zAa (zAe 1 (S_a [(0,.n (l.length))] (ap ((by simp):some (List.map I l).length=some l.length) an) (zAe 1 (zAd (zAp 0 ?_)))))))))))))))))))))))
 ·simp;intro h;subst h;simp at *
 refine zBo (fun i=>i≤l.length∧l.take i=m.take i) (fun i=>[(13,I (i:Nat))]) (fun i=>l.length-i) (0:Nat) (by simp) fun i ⟨hi,ha⟩=>?_
 refine zAc (zAa (zAe 1 (zAd (zAc (zCL ((↑i:Int)<(↑l.length:Int)) (fun k1=>(zAx (zAc (zAp 1 (zAc (zAa (zAe 2 (zAd (zAc (zAa (zAe 2 (S_a [(2,.v (I (l.getD i 0)))] (ap (zCG (0) (by omega):(List.map I l)[i]? = some (I (l.getD i 0))) an) (zAe 3 (S_a [(2,.v (I (m.getD i 0)))] (ap (zCG (0) (by omega):(List.map I m)[i]? = some (I (m.getD i 0))) an) (zAe 2 (zAd (zJI (l.getD i 0=m.getD i 0) (fun k2=>(zAc (zAa (zAe 1 (zAd (zAJ (E_a [] an (PV.bool false) ([]) ?_ rfl))))))) (fun k2=>(zAx (zAa (S_a [(1,.v (I (↑(i+1):Int)))] (ap ((zAR (by omega) (by omega)):I (IntKind.i64.wrap ((↑i:Int)+1))=I (↑(i+1):Int)) an) (zAe 1 (zAd ?_))))))))))))))))))))))) (fun k1=>(zBM 0 (zAc (zAa (zAe 1 (zAd (zAJ (E_a [] an (PV.bool true) ([]) ?_ rfl)))))))))))))
 ·simp;intro h;subst h;omega
 ·refine ⟨i+1,⟨by omega,?_⟩,by omega,by kernel_rfl,by kernel_rfl⟩
  exact zPB (d:=0) (by omega) (by omega) ha (by assumption)
 ·rw [List.take_of_length_le (by omega),List.take_of_length_le (by omega)] at ha
  simp [ha]
theorem f20 (l m:List Int) (hl:l.length<4294967296):FG 20 [zCm l,zCm m] (.bool (decide (l=m))):=by
 refine zAi Try.f20 ?_
 refine zAc (zAa (zAe 1 (zAd (zAc (zAa (zAe 2 (S_a [(8,.ret (PV.bool (decide (l=m))) ([]))] (ap (f85 (l) (m) (by omega)) an) (zAe 1 (zAd (zAJ (E_a [] an (PV.bool (decide (l=m))) ([]) rfl rfl)))))))))))
end
end Go.Eng
namespace Go.Eng
open Go Go.Proofs
def zLw {α:Type} (φ:α→Bool) (l:List α):Int:=if l.findIdx φ<l.length then (l.findIdx φ:Int) else -1
theorem zF7 {α : Type} {φ : α → Bool} {l : List α} {i : Nat} (h : i < l.length) (h0 : ∀ j (hj : j < i), φ (l[j]'(by omega)) = false) (hi : φ l[i] = true) : zLw φ l = i := by
 have:l.findIdx φ=i:=by
  rw [List.findIdx_eq h]
  exact ⟨hi,fun j hj=>by simpa using h0 j hj⟩
 simp [zLw,this,h]
theorem zG0 {α : Type} {φ : α → Bool} {l : List α} (h0 : ∀ j (hj : j < l.length), φ (l[j]'hj) = false) : zLw φ l = -1 := by
 have:¬ l.findIdx φ<l.length:=by
  intro h
  have:=List.findIdx_getElem (w:=h)
  rw [h0 _ h] at this;cases this
 simp [zLw,this]
theorem zLt {α:Type} (φ:α→Bool) (l:List α):decide (zLw φ l≥0)=l.any φ:=by
 unfold zLw
 split
 ·rename_i h
  have:=List.findIdx_getElem (w:=h)
  have h2:l.any φ=true:=List.any_eq_true.2 ⟨_,List.getElem_mem h,this⟩
  rw [h2];simp
 ·rename_i h
  have h2:l.any φ=false:=by
   rw [List.any_eq_false]
   intro x hx hp
   exact h (List.findIdx_lt_length_of_exists ⟨x,hx,hp⟩)
  rw [h2];simp
section
variable [Yo]
end
end Go.Eng
namespace Go.Eng
open Go Go.Proofs
structure Rnd where
 w:Int
 s:Int
 may:List Int
 deriving Inhabited
abbrev zBb (r:Rnd):PV := .agg [I r.w,I r.s,zCm r.may]
structure Dk where
 cr:Int
 wd:Int
 st:Int
 fn:Int
 rs:List Rnd
abbrev zEZ (b:Dk):PV := .agg [I b.cr,I b.wd,I b.st,I b.fn,.sl (b.rs.map zBb)]
abbrev zBs (b:Dk) (fee:List Int):PV := .agg [I b.cr,I b.wd,I b.st,I b.fn,.sl (b.rs.map zBb),zCm fee]
def has (l:List Int) (v:Int):Bool:=l.any fun x=>decide (v=x)
def rnd (b:Dk) (r:Nat):Rnd:=b.rs.getD r default
def zGe (b:Dk):Prop:=b.rs.length<4294967296∧∀ r∈b.rs,r.may.length<4294967296
section
variable [Yo]
theorem f128 (l:List Int) (v:Int) (hl:l.length<4294967296):FG 128 [zCm l,I v] (I (zLw (fun x=>decide (v=x)) l)):=by
 refine zAi Try.f128 ?_
 refine zAc (zAa (zAe 1 (zAd (zAc (zAc (zAa (zAe 1 (S_a [(0,.n (l.length))] (ap ((by simp):some (List.map I l).length=some l.length) an) (zAe 1 (zAd (zAp 0 ?_)))))))))))
 refine zBo (fun i=>i≤l.length∧∀ j,j<i→(fun x=>decide (v=x)) (l.getD j 0)=false) (fun i=>[(8,I (i:Nat))]) (fun i=>l.length-i) (0:Nat) (by simp) fun i ⟨hi,ha⟩=>?_
 refine zAc (zAa (zAe 1 (zAd (zAc (zCL ((↑i:Int)<(↑l.length:Int)) (fun k0=>(zAx (zAc (zAp 1 (zAc (zAa (zAe 2 (zAd (zAc (zAa (zAe 3 (S_a [(2,.v (I (l.getD i 0)))] (ap (zCG (0) (by omega):(List.map I l)[i]? = some (I (l.getD i 0))) an) (zAe 2 (zAd (zCL (v=l.getD i 0) (fun k1=>(zAc (zAa (zAe 2 (zAd (zAJ (E_a [] an (I (↑i:Int)) ([]) ?_ rfl))))))) (fun k1=>(zAx (zAa (S_a [(1,.v (I (↑(i+1):Int)))] (ap ((zAR (by omega) (by omega)):I (IntKind.i64.wrap ((↑i:Int)+1))=I (↑(i+1):Int)) an) (zAe 1 (zAd ?_))))))))))))))))))))) (fun k0=>(zBM 0 (zAc (zAa (zAe 1 (zAd (zAJ (E_a [] an (I (-1)) ([]) ?_ rfl)))))))))))))
 ·rw [zF7 (i:=i) (by omega) (fun j hj=>by rw [← zAK (d:=0)];exact ha j hj) (by rw [← zAK (d:=0)];exact decide_eq_true (by assumption))]
 ·refine ⟨i+1,⟨by omega,fun j hj=>?_⟩,by omega,by kernel_rfl,by kernel_rfl⟩
  rcases Nat.lt_succ_iff_lt_or_eq.1 hj with h | rfl
  ·exact ha j h
  ·exact decide_eq_false (by assumption)
 ·rw [zG0 fun j hj=>by rw [← zAK (d:=0)];exact ha j (by omega)]
theorem f87 (l:List Int) (v:Int) (hl:l.length<4294967296):FG 87 [zCm l,I v] (.bool (has l v)):=by
 refine zAi Try.f87 ?_
 refine zAc (zAa (zAe 1 (zAd (zAc (zAa (zAe 2 (S_a [(8,.ret (I (zLw (fun x=>decide (v=x)) l)) ([]))] (ap (f128 (l) (v) (by omega)) an) (zAe 2 (zAd (zAJ (E_a [] an (PV.bool (decide (zLw (fun x=>decide (v=x)) l≥0))) ([]) ?_ rfl)))))))))))
 rw [zLt];rfl
theorem f98 (b:Dk) (fee:List Int) (c:Int) (r:Nat) (hr:r<b.rs.length) (hb:zGe b):FG 98 [.ref (zBs b fee),I c,I r] (.bool (has (rnd b r).may c)):=by
 refine zAi Try.f98 ?_
 have hm:(b.rs.getD r default).may.length<4294967296:=hb.2 _ (by rw [zAK hr];exact List.getElem_mem _)
 refine zAc (zAa (zAe 1 (zAd (zAc (zAa (zAe 6 (S_a [(2,.v (PV.agg [I (b.rs.getD r default).w,I (b.rs.getD r default).s,PV.sl (List.map I (b.rs.getD r default).may)]))] (ap (zCG (default) (by omega):(List.map zBb b.rs)[r]? = some (PV.agg [I (b.rs.getD r default).w,I (b.rs.getD r default).s,PV.sl (List.map I (b.rs.getD r default).may)])) an) (zAe 3 (S_a [(8,.ret (PV.bool (has (b.rs.getD r default).may c)) ([]))] (ap (f87 ((b.rs.getD r default).may) (c) (by omega)) an) (zAe 1 (zAd (zAJ (E_a [] an (PV.bool (has (b.rs.getD r default).may c)) ([]) rfl rfl)))))))))))))
end
def zNc (b:Dk) (fee f zAk:List Int) (r t:Nat):Bool:=decide ((t:Int)≠zAk.getD r 0)&&(has (rnd b r).may t&&decide (f.getD t 0+fee.getD r 0<f.getD (zAk.getD r 0).toNat 0))
def zGD (b:Dk) (fee f zAk:List Int) (r n:Nat):List (Nat×Nat):=((List.range n).filter (zNc b fee f zAk r)).map fun t=>(r,t)
def mvs (b:Dk) (fee f zAk:List Int) (n:Nat):List (Nat×Nat):=(List.range n).flatMap fun r=>zGD b fee f zAk r b.cr.toNat
abbrev mvV (m:Nat×Nat):PV := .agg [I m.1,I m.2]
abbrev zFp (b:Dk) (fee f zAk:List Int):List PV:=[.ref (zCm zAk),.ref (.ref (zBs b fee)),.ref (.func 98 [.ref (zBs b fee)] []),.ref (.agg (f.map I))]
structure MvOk (b:Dk) (fee f zAk:List Int):Prop where
 jc:zGe b
 jD:0≤b.cr∧b.cr≤4
 hf:f.length=4
 hfee:fee.length=b.rs.length
 hshare:zAk.length=b.rs.length
 jU:∀ x∈zAk,0≤x∧x<4
 qg:∀ i,-1000000≤f.getD i 0∧f.getD i 0≤1000000
 hfeeb:∀ i,-1000000≤fee.getD i 0∧fee.getD i 0≤1000000
abbrev zJN (b:Dk) (fee f zAk:List Int) (n:Nat):List (List PV):=(mvs b fee f zAk n).map fun m=>[mvV m]
theorem zHM {b:Dk} {fee f zAk:List Int} {r t:Nat}:zGD b fee f zAk r (t+1)=zGD b fee f zAk r t++if zNc b fee f zAk r t then [(r,t)] else []:=by
 simp only [zGD,List.range_succ,List.filter_append,List.map_append]
 congr 1
 cases h:zNc b fee f zAk r t<;>simp [h]
theorem zKU {b:Dk} {fee f zAk:List Int} {r:Nat}:mvs b fee f zAk (r+1)=mvs b fee f zAk r++zGD b fee f zAk r b.cr.toNat:=by
 simp only [mvs,List.range_succ,List.flatMap_append];simp
theorem zQU {b:Dk} {fee f zAk:List Int} {r t n:Nat} (h:t≤n):zGD b fee f zAk r t <+: zGD b fee f zAk r n:=by
 induction h with
 | refl=>exact List.prefix_refl _
 | step _ ih=>rw [zHM];exact ih.trans (List.prefix_append _ _)
theorem zTM {b:Dk} {fee f zAk:List Int} {t n:Nat} (h:t≤n):mvs b fee f zAk t <+: mvs b fee f zAk n:=by
 induction h with
 | refl=>exact List.prefix_refl _
 | step _ ih=>rw [zKU];exact ih.trans (List.prefix_append _ _)
theorem zVn {b:Dk} {fee f zAk:List Int} {r t n:Nat} (hr:r<n) (ht:t≤b.cr.toNat):mvs b fee f zAk r++zGD b fee f zAk r t <+: mvs b fee f zAk n:=by
 refine List.IsPrefix.trans ?_ (zTM (Nat.succ_le_of_lt hr))
 rw [Nat.succ_eq_add_one,zKU]
 exact (List.prefix_append_right_inj _).2 (zQU ht)
theorem zR2 {α:Type} {x y:List α} (h:x <+: y) {k:Int} (hk:k=x.length):x=y.take k.toNat:=by
 rw [hk,Int.toNat_natCast];exact List.prefix_iff_eq_take.1 h
set_option maxRecDepth 10000 in
set_option maxHeartbeats 4000000 in
theorem f130w [Yo] {b:Dk} {fee f zAk:List Int} (h:MvOk b fee f zAk) (k:Int) (hk:k = -1∨1≤k∧k≤(mvs b fee f zAk zAk.length).length) (i:Nat):W Try.prog zAq 130 Try.f130.ntmps (Try.f130.body.getD .ret) (zA5 ([]++PV.yld i::zFp b fee f zAk) []) (some ⟨[],k,i⟩) fun x _ lg=>(x = .norm∨x = .ret)∧lg.map (·.xs)=some (if k = -1 then zJN b fee f zAk zAk.length else (zJN b fee f zAk zAk.length).take k.toNat):=by
 obtain ⟨h1,h2,h3,h4,h5,h6,h7,h8⟩:=h
 have h1a:=h1.1
 refine zAc (zAa (zAe 1 (S_a [(0,.n (zAk.length))] (ap ((by simp):some (List.map I zAk).length=some zAk.length) an) (zAe 1 (zAd (zAp 0 ?_))))))
 refine zP9 (fun (r,xs,kc)=>r≤zAk.length∧xs=zJN b fee f zAk r∧kc=k-xs.length∧(k = -1∨1≤kc)) (fun (r,_,_)=>[(11,I (r:Nat))]) (fun (_,xs,kc)=>some ⟨xs,kc,i⟩) (fun (r,_,_)=>zAk.length-r) ((0:Nat),([]:List (List PV)),k) ⟨Nat.zero_le _,rfl,by simp,by omega⟩ fun (r,xs,kc) ⟨hr,j0,hkc,jV⟩=>?_
 refine zAc (zAa (zAe 1 (zAd (zAc (zCL ((↑r:Int)<(↑zAk.length:Int)) (fun k2=>(zAx (zAc (zAp 1 (zAc (zAa (zAe 1 (S_a [(2,.v (I (zAk.getD r 0)))] (ap (zCG (0) (by omega):(List.map I zAk)[r]? = some (I (zAk.getD r 0))) an) (zAe 3 (zAd (zAc (zAa (zAe 6 (zAd (zAp 2 ?_))))))))))))))) (fun k2=>(zBM 0 ?_)))))))
 ·refine zP9 (fun (t,ys,kd)=>t≤b.cr.toNat∧ys=xs++(zGD b fee f zAk r t).map (fun m=>[mvV m])∧kd=k-ys.length∧(k = -1∨1≤kd)) (fun (t,_,_)=>[(21,I (t:Nat))]) (fun (_,ys,kd)=>some ⟨ys,kd,i⟩) (fun (t,_,_)=>b.cr.toNat-t) ((0:Nat),xs,kc) ⟨Nat.zero_le _,by simp [zGD],hkc,jV⟩ fun (t,ys,kd) ⟨ht,wh,hkd,ua⟩=>?_
  have hshr:=h6 (zAk.getD r 0) (by rw [zAK (by omega)];exact List.getElem_mem _)
  have hf1:=h7 t
  have jk:=h8 r
  have u5:=zVn (b:=b) (fee:=fee) (f:=f) (zAk:=zAk) (r:=r) (t:=t+1) (n:=zAk.length)
  have jd:zNc b fee f zAk r t=false→ys=xs++(zGD b fee f zAk r (t+1)).map (fun m=>[mvV m]):=fun h=>by rw [zHM,h,wh];simp
  refine zAc (zAa (zAe 1 (zAd (zAc (zCL ((↑t:Int)<b.cr) (fun k4=>(zAx (zAc (zAp 3 (zAc (zAa (zAe 2 (zAd (zAc (zAa (zAe 4 (zTr 27 ((↑t:Int)=zAk.getD r 0) (fun k5=>(zAe 3 (S_a [(9,.ret (PV.bool (has (rnd b r).may (↑t:Int))) ([]))] (ap (f98 (b) (fee) ((↑t:Int)) (r) (by first | omega | (simp<;>omega)) (by omega)) an) (zAe 2 (zII 33 (has (rnd b r).may (↑t:Int)) (fun k6=>(zAe 1 (S_a [(2,.ob),(0,.v ((I (f.getD t 0)).ref))] (ap ((by exact zA8 (by omega)):decide (t<4)=true) (ap (zQH (i:=t) (by omega) (0):zDY (PV.agg (List.map I f)).ref (t*(fun x=>x.size) Try.prog.types[3]) none=some (I (f.getD t 0)).ref) an)) (zAe 6 (S_a [(2,.v (I (fee.getD r 0)))] (ap (zCG (0) (by omega):(List.map I fee)[r]? = some (I (fee.getD r 0))) an) (zAe 1 (S_a [(1,.v (I (f.getD t 0+fee.getD r 0)))] (ap ((zAR rfl (by omega)):I (IntKind.i64.wrap (f.getD t 0+fee.getD r 0))=I (f.getD t 0+fee.getD r 0)) an) (zAe 1 (S_a [(0,.ob),(1,.ob),(0,.v ((I (f.getD (zAk.getD r 0).toNat 0)).ref))] (ap ((by exact zA8 (by omega)):decide (0≤zAk.getD r 0)=true) (ap ((by exact zA8 (by omega)):decide ((zAk.getD r 0).toNat<4)=true) (ap (zQH (i:=(zAk.getD r 0).toNat) (by omega) (0):zDY (PV.agg (List.map I f)).ref ((zAk.getD r 0).toNat*(fun x=>x.size) Try.prog.types[3]) none=some (I (f.getD (zAk.getD r 0).toNat 0)).ref) an))) (zAe 4 (zKN 50 (f.getD t 0+fee.getD r 0<f.getD (zAk.getD r 0).toNat 0) (fun k7=>(zAe 4 ?_)) (fun k7=>(zAe 7 (zAd (zBE (zAx (zAa (S_a [(1,.v (I (↑(t+1):Int)))] (ap ((zAR (by omega) (by omega)):I (IntKind.i64.wrap ((↑t:Int)+1))=I (↑(t+1):Int)) an) (zAe 1 (zAd ?_)))))))))))))))))))) (fun k6=>(zAe 24 (zAd (zBE (zAx (zAa (S_a [(1,.v (I (↑(t+1):Int)))] (ap ((zAR (by omega) (by omega)):I (IntKind.i64.wrap ((↑t:Int)+1))=I (↑(t+1):Int)) an) (zAe 1 (zAd ?_)))))))))))))) (fun k5=>(zAe 30 (zAd (zBE (zAx (zAa (S_a [(1,.v (I (↑(t+1):Int)))] (ap ((zAR (by omega) (by omega)):I (IntKind.i64.wrap ((↑t:Int)+1))=I (↑(t+1):Int)) an) (zAe 1 (zAd ?_))))))))))))))))))))) (fun k4=>(zBM 2 (zAa (S_a [(1,.v (I (↑(r+1):Int)))] (ap ((zAR (by omega) (by omega)):I (IntKind.i64.wrap ((↑r:Int)+1))=I (↑(r+1):Int)) an) (zAe 1 (zAd ?_)))))))))))
  ·have yE:zNc b fee f zAk r t=true:=by simp only [zNc,k6,decide_eq_true k5,decide_eq_true k7];rfl
   have hys':ys++[[mvV (r,t)]]=xs++(zGD b fee f zAk r (t+1)).map (fun m=>[mvV m]):=by rw [zHM,yE,wh];simp
   have hpre':ys++[[mvV (r,t)]] <+: zJN b fee f zAk zAk.length:=by
    have:=(u5 (by omega) (by omega)).map (fun m=>[mvV m])
    rw [List.map_append] at this
    rw [hys',j0];exact this
   refine zTA kd ys [mvV (r,t)] i (fun hk3=>?_) (fun hk3=>?_) (by omega)
   ·refine zAe 2 (zAd (zEl (zAJ ?_)))
    refine ⟨.inr rfl,?_⟩
    have vr:k=(ys++[[mvV (r,t)]]).length:=by simp;omega
    have jV:¬ k = -1:=by omega
    rw [if_neg jV,← zR2 hpre' vr];show Option.map _ _=_;kernel_rfl
   ·refine zAe 2 (zAd (zBE (zAx (zAa (S_a [(1,.v (I (↑(t+1):Int)))] (ap ((zAR (by omega) (by omega)):I (IntKind.i64.wrap ((↑t:Int)+1))=I (↑(t+1):Int)) an) (zAe 1 (zAd ?_)))))))
    exact ⟨(t+1,ys++[[mvV (r,t)]],kd-1),⟨by omega,hys',by simp;omega,by omega⟩,by simp only;omega,by kernel_rfl,by kernel_rfl⟩
  ·refine ⟨(t+1,ys,kd),⟨by omega,jd (by simp only [zNc,k6,decide_eq_false k7];simp),hkd,ua⟩,by simp only;omega,by kernel_rfl,by kernel_rfl⟩
  ·refine ⟨(t+1,ys,kd),⟨by omega,jd (by simp only [zNc,k6];simp),hkd,ua⟩,by simp only;omega,by kernel_rfl,by kernel_rfl⟩
  ·refine ⟨(t+1,ys,kd),⟨by omega,jd (by simp only [zNc,k5];simp),hkd,ua⟩,by simp only;omega,by kernel_rfl,by kernel_rfl⟩
  ·have htc:t=b.cr.toNat:=by omega
   refine ⟨(r+1,ys,kd),⟨by omega,?_,hkd,ua⟩,by simp only;omega,by kernel_rfl,by kernel_rfl⟩
   rw [wh,j0,zJN,zJN,zKU,htc,List.map_append]
 have hrl:r=zAk.length:=by omega
 refine ⟨.inl rfl,?_⟩
 subst hrl
 have hO:xs.length=(mvs b fee f zAk zAk.length).length:=by rw [j0];simp
 have jV:k = -1:=by omega
 rw [if_pos jV,← j0];show Option.map _ _=_;kernel_rfl
theorem f130h {b:Dk} {fee f zAk:List Int} (h:MvOk b fee f zAk) (k:Int) (hk:k = -1∨1≤k∧k≤(mvs b fee f zAk zAk.length).length):@zSO (yo1 Try.prog zAq) 130 [] (zFp b fee f zAk) k (if k = -1 then zJN b fee f zAk zAk.length else (zJN b fee f zAk zAk.length).take k.toNat) :=
 zSM Try.f130 (fun i=>@f130w yo0 _ _ _ _ h k hk i) (by omega)
end Go.Eng
namespace Go.Eng
open Go
end Go.Eng
set_option maxRecDepth 10000
set_option maxHeartbeats 2000000
namespace Go.Eng
open Go Go.Proofs
def zMR (l:List Int):Bool:=(List.range (l.length-1)).all fun j=>decide (l.getD j 0<l.getD (j+1) 0)
theorem zRe {l:List Int} (h:∀ j,j+1<l.length→l.getD j 0<l.getD (j+1) 0):zMR l=true:=by
 simp only [zMR,List.all_eq_true,List.mem_range,decide_eq_true_eq]
 exact fun j hj=>h j (by omega)
theorem zVB {l:List Int} {j:Nat} (hj:j+1<l.length) (h:l.getD j 0≥l.getD (j+1) 0):zMR l=false:=by
 simp only [zMR,List.all_eq_false]
 exact ⟨j,List.mem_range.2 (by omega),by simp only [decide_eq_true_eq];omega⟩
theorem zOc {l:List Int} (h:zMR l=true) {j:Nat} (hj:j+1<l.length):l.getD j 0<l.getD (j+1) 0:=by
 simp only [zMR,List.all_eq_true,List.mem_range,decide_eq_true_eq] at h
 exact h j (by omega)
def zDq (cr:Int) (r:Rnd):Int:=if r.may.length=0 then 6 else if !r.may.all (fun x=>decide (0≤x)&&decide (x≤cr-1)) then 1 else if !zMR r.may then 4 else 0
def zC7 (cr:Int):List Rnd→Int
 | []=>0
 | r::rs=>if zDq cr r=0 then zC7 cr rs else zDq cr r
def zCv (r:Rnd):Bool:=(decide (1≤r.w)&&decide (r.w≤9))&&(decide (1≤r.s)&&decide (r.s≤5))
def zBc (b:Dk):Int :=
 if !(decide (1≤b.cr)&&decide (b.cr≤4)) then 2
 else if (b.rs.length:Int)>7 then 2
 else if !(decide (0≤b.wd)&&decide (b.wd≤20)) then 3
 else if !(decide (0≤b.st)&&decide (b.st≤20)) then 3
 else if !(decide (0≤b.fn)&&decide (b.fn≤20)) then 3
 else if !b.rs.all zCv then 3
 else zC7 b.cr b.rs
abbrev zVL (l:List Rnd):PV := .sl (l.map zBb)
theorem zON {cr:Int} {l:List Rnd} {i:Nat} (h:i<l.length):zC7 cr (l.drop i)=if zDq cr (l.getD i default)=0 then zC7 cr (l.drop (i+1)) else zDq cr (l.getD i default):=by
 rw [List.drop_eq_getElem_cons h,zAK h];rfl
section
variable [Yo]
theorem f114 (r:Rnd):FG 114 [zBb r] (.bool (zCv r)):=by
 refine zAi Try.f114 ?_
 refine zAc (zAa (zAe 2 (zAd (zAc (zAa (zAe 2 (S_a [(10,.ret (PV.bool (decide (1≤r.w)&&decide (r.w≤9))) ([]))] (ap (f78 (r.w) (1) (9)) an) (zAe 1 (zII 6 (decide (1≤r.w)&&decide (r.w≤9)) (fun k0=>(zAe 2 (S_a [(10,.ret (PV.bool (decide (1≤r.s)&&decide (r.s≤5))) ([]))] (ap (f78 (r.s) (1) (5)) an) (zAe 2 (zAd (zAJ (E_a [] an (PV.bool (decide (1≤r.s)&&decide (r.s≤5))) ([]) ?_ rfl))))))) (fun k0=>(zAe 5 (zAd (zAJ (E_a [] an (PV.bool false) ([]) ?_ rfl))))))))))))))
 ·simp only [zCv,k0,Bool.true_and]
 ·simp only [zCv,k0,Bool.false_and]
theorem f115 (b:Dk) (n:Int) (hb:1≤b.cr∧b.cr≤4):FG 115 [zEZ b,I n] (.bool (decide (0≤n)&&decide (n≤b.cr-1))):=by
 refine zAi Try.f115 ?_
 refine zAc (zAa (zAe 2 (zAd (zAc (zAa (zAe 3 (S_a [(1,.v (I (b.cr-1)))] (ap ((zAR rfl (by omega)):I (IntKind.i64.wrap (b.cr-1))=I (b.cr-1)) an) (S_a [(10,.ret (PV.bool (decide (0≤n)&&decide (n≤b.cr-1))) ([]))] (ap (f78 (n) (0) (b.cr-1)) an) (zAe 1 (zAd (zAJ (E_a [] an (PV.bool (decide (0≤n)&&decide (n≤b.cr-1))) ([]) rfl rfl))))))))))))
theorem f139_3  (x:Rnd):FG 139 [zBb x,.ref (.func 114 [] [])] (.bool (!(zCv x))):=by
 refine zAi Try.f139 ?_
 refine zAc (zAa (zAe 2 (zAd (zAc (zAa (zAe 2 (S_a [(6,.ret (PV.bool (zCv x)) ([]))] (ap (f114 (x)) an) (zAe 2 (zAd (zAJ (E_a [] an (PV.bool !zCv x) ([]) rfl rfl)))))))))))
theorem f146_3n  (l:List Rnd) (hl:l.length<4294967296):FG 146 [zVL l,.func 139 [] [.ref (.func 114 [] [])]] (I (zLw (fun x => !(zCv x)) l)):=by
 refine zAi Try.f146 ?_
 refine zAc (zAa (zAe 1 (zAd (zAc (zAc (zAa (zAe 1 (S_a [(0,.n (l.length))] (ap ((by simp):some (List.map zBb l).length=some l.length) an) (zAe 1 (zAd (zAp 0 ?_)))))))))))
 refine zBo (fun i=>i≤l.length∧∀ j,j<i→(fun x => !(zCv x)) (l.getD j default)=false) (fun i=>[(8,I (i:Nat))]) (fun i=>l.length-i) (0:Nat) (by simp) fun i ⟨hi,ha⟩=>?_
 refine zAc (zAa (zAe 1 (zAd (zAc (zCL ((↑i:Int)<(↑l.length:Int)) (fun k0=>(zAx (zAc (zAp 1 (zAc (zAa (zAe 2 (zAd (zAc (zAa (zAe 3 (S_a [(2,.v (PV.agg [I (l.getD i default).w,I (l.getD i default).s,PV.sl (List.map I (l.getD i default).may)]))] (ap (zCG (default) (by omega):(List.map zBb l)[i]? = some (PV.agg [I (l.getD i default).w,I (l.getD i default).s,PV.sl (List.map I (l.getD i default).may)])) an) (zAe 1 (S_a [(7,.ret (PV.bool !zCv (l.getD i default)) ([]))] (ap (f139_3 (l.getD i default)) an) (zAd (zLv (!zCv (l.getD i default)) (fun k1=>(zAc (zAa (zAe 2 (zAd (zAJ (E_a [] an (I (↑i:Int)) ([]) ?_ rfl))))))) (fun k1=>(zAx (zAa (S_a [(1,.v (I (↑(i+1):Int)))] (ap ((zAR (by omega) (by omega)):I (IntKind.i64.wrap ((↑i:Int)+1))=I (↑(i+1):Int)) an) (zAe 1 (zAd ?_)))))))))))))))))))))) (fun k0=>(zBM 0 (zAc (zAa (zAe 1 (zAd (zAJ (E_a [] an (I (-1)) ([]) ?_ rfl)))))))))))))
 ·rw [zF7 (i:=i) (by omega) (fun j hj=>by rw [← zAK (d:=default)];exact ha j hj) (by rw [← zAK (d:=default)];assumption)]
 ·refine ⟨i+1,⟨by omega,fun j hj=>?_⟩,by omega,by kernel_rfl,by kernel_rfl⟩
  rcases Nat.lt_succ_iff_lt_or_eq.1 hj with h | rfl
  ·exact ha j h
  ·assumption
 ·rw [zG0 fun j hj=>by rw [← zAK (d:=default)];exact ha j (by omega)]
theorem f138_3n  (l:List Rnd) (hl:l.length<4294967296):FG 138 [zVL l,.func 139 [] [.ref (.func 114 [] [])]] (.bool (l.any (fun x => !(zCv x)))):=by
 refine zAi Try.f138 ?_
 refine zAc (zAa (zAe 1 (zAd (zAc (zAa (zAe 2 (S_a [(7,.ret (I (zLw (fun x => !zCv x) l)) ([]))] (ap (f146_3n (l) (by omega)) an) (zAe 2 (zAd (zAJ (E_a [] an (PV.bool (decide (zLw (fun x => !zCv x) l≥0))) ([]) ?_ rfl)))))))))))
 rw [zLt]
theorem f113_3  (l:List Rnd) (hl:l.length<4294967296):FG 113 [zVL l,.func 114 [] []] (.bool (l.all (fun x=>zCv x))):=by
 refine zAi Try.f113 ?_
 refine zAc (zAa (zAe 2 (zAd (zAc (zAa (zAe 2 (S_a [(12,.ret (PV.bool (l.any fun x => !zCv x)) ([]))] (ap (f138_3n (l) (by omega)) an) (zAe 2 (zAd (zAJ (E_a [] an (PV.bool !l.any fun x => !zCv x) ([]) ?_ rfl)))))))))))
 simp [List.not_any_eq_all_not]
theorem f126_2 (b:Dk) (hb:1≤b.cr∧b.cr≤4) (x:Int):FG 126 [I x,.ref (.func 115 [zEZ b] [])] (.bool (!(decide (0≤x)&&decide (x≤b.cr-1)))):=by
 refine zAi Try.f126 ?_
 refine zAc (zAa (zAe 1 (zAd (zAc (zAa (zAe 2 (S_a [(8,.ret (PV.bool (decide (0≤x)&&decide (x≤b.cr-1))) ([]))] (ap (f115 (b) (x) (by omega)) an) (zAe 2 (zAd (zAJ (E_a [] an (PV.bool !(decide (0≤x)&&decide (x≤b.cr-1))) ([]) rfl rfl)))))))))))
theorem f118_2n (b:Dk) (hb:1≤b.cr∧b.cr≤4) (l:List Int) (hl:l.length<4294967296):FG 118 [zCm l,.func 126 [] [.ref (.func 115 [zEZ b] [])]] (I (zLw (fun x => !(decide (0≤x)&&decide (x≤b.cr-1))) l)):=by
 refine zAi Try.f118 ?_
 refine zAc (zAa (zAe 1 (zAd (zAc (zAc (zAa (zAe 1 (S_a [(0,.n (l.length))] (ap ((by simp):some (List.map I l).length=some l.length) an) (zAe 1 (zAd (zAp 0 ?_)))))))))))
 refine zBo (fun i=>i≤l.length∧∀ j,j<i→(fun x => !(decide (0≤x)&&decide (x≤b.cr-1))) (l.getD j 0)=false) (fun i=>[(8,I (i:Nat))]) (fun i=>l.length-i) (0:Nat) (by simp) fun i ⟨hi,ha⟩=>?_
 refine zAc (zAa (zAe 1 (zAd (zAc (zCL ((↑i:Int)<(↑l.length:Int)) (fun k0=>(zAx (zAc (zAp 1 (zAc (zAa (zAe 2 (zAd (zAc (zAa (zAe 3 (S_a [(2,.v (I (l.getD i 0)))] (ap (zCG (0) (by omega):(List.map I l)[i]? = some (I (l.getD i 0))) an) (zAe 1 (S_a [(7,.ret (PV.bool !(decide (0≤l.getD i 0)&&decide (l.getD i 0≤b.cr-1))) ([]))] (ap (f126_2 (b) (by omega) (l.getD i 0)) an) (zAd (zLv (!(decide (0≤l.getD i 0)&&decide (l.getD i 0≤b.cr-1))) (fun k1=>(zAc (zAa (zAe 2 (zAd (zAJ (E_a [] an (I (↑i:Int)) ([]) ?_ rfl))))))) (fun k1=>(zAx (zAa (S_a [(1,.v (I (↑(i+1):Int)))] (ap ((zAR (by omega) (by omega)):I (IntKind.i64.wrap ((↑i:Int)+1))=I (↑(i+1):Int)) an) (zAe 1 (zAd ?_)))))))))))))))))))))) (fun k0=>(zBM 0 (zAc (zAa (zAe 1 (zAd (zAJ (E_a [] an (I (-1)) ([]) ?_ rfl)))))))))))))
 ·rw [zF7 (i:=i) (by omega) (fun j hj=>by rw [← zAK (d:=0)];exact ha j hj) (by rw [← zAK (d:=0)];assumption)]
 ·refine ⟨i+1,⟨by omega,fun j hj=>?_⟩,by omega,by kernel_rfl,by kernel_rfl⟩
  rcases Nat.lt_succ_iff_lt_or_eq.1 hj with h | rfl
  ·exact ha j h
  ·assumption
 ·rw [zG0 fun j hj=>by rw [← zAK (d:=0)];exact ha j (by omega)]
theorem f65_2n (b:Dk) (hb:1≤b.cr∧b.cr≤4) (l:List Int) (hl:l.length<4294967296):FG 65 [zCm l,.func 126 [] [.ref (.func 115 [zEZ b] [])]] (.bool (l.any (fun x => !(decide (0≤x)&&decide (x≤b.cr-1))))):=by
 refine zAi Try.f65 ?_
 refine zAc (zAa (zAe 1 (zAd (zAc (zAa (zAe 2 (S_a [(6,.ret (I (zLw (fun x => !(decide (0≤x)&&decide (x≤b.cr-1))) l)) ([]))] (ap (f118_2n (b) (by omega) (l) (by omega)) an) (zAe 2 (zAd (zAJ (E_a [] an (PV.bool (decide (zLw (fun x => !(decide (0≤x)&&decide (x≤b.cr-1))) l≥0))) ([]) ?_ rfl)))))))))))
 rw [zLt]
theorem f79_2 (b:Dk) (hb:1≤b.cr∧b.cr≤4) (l:List Int) (hl:l.length<4294967296):FG 79 [zCm l,.func 115 [zEZ b] []] (.bool (l.all (fun x=>decide (0≤x)&&decide (x≤b.cr-1)))):=by
 refine zAi Try.f79 ?_
 refine zAc (zAa (zAe 2 (zAd (zAc (zAa (zAe 2 (S_a [(12,.ret (PV.bool (l.any fun x => !(decide (0≤x)&&decide (x≤b.cr-1)))) ([]))] (ap (f65_2n (b) (by omega) (l) (by omega)) an) (zAe 2 (zAd (zAJ (E_a [] an (PV.bool !l.any fun x => !(decide (0≤x)&&decide (x≤b.cr-1))) ([]) ?_ rfl)))))))))))
 simp [List.not_any_eq_all_not]
theorem f58 (b:Dk) (hb:zGe b):FG 58 [zEZ b] (I (zBc b)):=by
 refine zAi Try.f58 ?_
 have yX:=hb.1
 refine zAc (zAa (zAe 2 (zAd (zAc (zAp 0 (zAc (zAa (zAe 2 (S_a [(10,.ret (PV.bool (decide (1≤b.cr)&&decide (b.cr≤4))) ([]))] (ap (f78 (b.cr) (1) (4)) an) (zAe 2 (zII 11 (!(decide (1≤b.cr)&&decide (b.cr≤4))) (fun k0=>(zAe 6 (zAd (zEl (zAc (zAa (zAe 1 (zAd (zAJ (E_a [] an (I 2) ([]) ?_ rfl)))))))))) (fun k0=>(zAe 2 (S_a [(0,.n (b.rs.length))] (ap ((by simp):some (List.map zBb b.rs).length=some b.rs.length) an) (zAe 3 (zAd (zCL ((↑b.rs.length:Int)>7) (fun k1=>(zAc (zAa (zAe 1 (zAd (zAJ (E_a [] an (I 2) ([]) ?_ rfl))))))) (fun k1=>(zAc (zAa (zAe 2 (S_a [(10,.ret (PV.bool (decide (0≤b.wd)&&decide (b.wd≤20))) ([]))] (ap (f78 (b.wd) (0) (20)) an) (zAe 2 (zII 22 (!(decide (0≤b.wd)&&decide (b.wd≤20))) (fun k2=>(zAe 12 (zAd (zEl (zAc (zAa (zAe 1 (zAd (zAJ (E_a [] an (I 3) ([]) ?_ rfl)))))))))) (fun k2=>(zAe 2 (S_a [(10,.ret (PV.bool (decide (0≤b.st)&&decide (b.st≤20))) ([]))] (ap (f78 (b.st) (0) (20)) an) (zAe 3 (zII 28 (!(decide (0≤b.st)&&decide (b.st≤20))) (fun k3=>(zAe 6 (zAd (zEl (zAc (zAa (zAe 1 (zAd (zAJ (E_a [] an (I 3) ([]) ?_ rfl)))))))))) (fun k3=>(zAe 2 (S_a [(10,.ret (PV.bool (decide (0≤b.fn)&&decide (b.fn≤20))) ([]))] (ap (f78 (b.fn) (0) (20)) an) (zAe 3 (zAd (zLv (!(decide (0≤b.fn)&&decide (b.fn≤20))) (fun k4=>(zAc (zAa (zAe 1 (zAd (zAJ (E_a [] an (I 3) ([]) ?_ rfl))))))) (fun k4=>(zAc (zAa (zAe 2 (S_a [(7,.ret (PV.bool (b.rs.all fun x=>zCv x)) ([]))] (ap (f113_3 (b.rs) (by omega)) an) (zAe 2 (zAd (zLv (!b.rs.all fun x=>zCv x) (fun k5=>(zAc (zAa (zAe 1 (zAd (zAJ (E_a [] an (I 3) ([]) ?_ rfl))))))) (fun k5=>(zAx (zAc (zAc (zAa (zAe 2 (S_a [(0,.n (b.rs.length))] (ap ((by simp):some (List.map zBb b.rs).length=some b.rs.length) an) (zAe 1 (zAd (zAp 1 ?_)))))))))))))))))))))))))))))))))))))))))))))))))))))
 ·simp only [zBc,k0,if_true]
 ·simp only [zBc,k0,k1,if_true];rfl
 ·simp only [zBc,k0,k1,k2,if_true,if_false];rfl
 ·simp only [zBc,k0,k1,k2,k3,if_true,if_false];rfl
 ·simp only [zBc,k0,k1,k2,k3,k4,if_true,if_false];rfl
 ·simp only [zBc,k0,k1,k2,k3,k4,k5,if_true,if_false];rfl
 have e:zBc b=zC7 b.cr b.rs:=by simp only [zBc,k0,k1,k2,k3,k4,k5,if_false];rfl
 have jD:=zLT k0
 rw [e]
 refine zBo (fun i=>i≤b.rs.length∧zC7 b.cr b.rs=zC7 b.cr (b.rs.drop i)) (fun i=>[(42,I (i:Nat))]) (fun i=>b.rs.length-i) (0:Nat) ⟨Nat.zero_le _,rfl⟩ fun i ⟨hi,hr⟩=>?_
 have hm:i<b.rs.length→(b.rs.getD i default).may.length<4294967296:=fun h=>hb.2 _ (by rw [zAK h];exact List.getElem_mem _)
 have jz:i<b.rs.length→zC7 b.cr b.rs=if zDq b.cr (b.rs.getD i default)=0 then zC7 b.cr (b.rs.drop (i+1)) else zDq b.cr (b.rs.getD i default):=fun h=>by rw [hr,zON h]
 refine zAc (zAa (zAe 1 (zAd (zAc (zCL ((↑i:Int)<(↑b.rs.length:Int)) (fun k6=>(zAx (zAc (zAp 2 (zAc (zAa (S_a [(2,.v (PV.agg [I (b.rs.getD i default).w,I (b.rs.getD i default).s,PV.sl (List.map I (b.rs.getD i default).may)]))] (ap (zCG (default) (by omega):(List.map zBb b.rs)[i]? = some (PV.agg [I (b.rs.getD i default).w,I (b.rs.getD i default).s,PV.sl (List.map I (b.rs.getD i default).may)])) an) (zAe 3 (zAd (zAc (zAp 3 (zAc (zAa (zAe 2 (S_a [(0,.n ((b.rs.getD i default).may.length))] (ap ((by simp):some (List.map I (b.rs.getD i default).may).length=some (b.rs.getD i default).may.length) an) (zAe 2 (zAd (zCL ((↑(b.rs.getD i default).may.length:Int)=0) (fun k7=>(zAc (zAa (zAe 1 (zAd (zAJ (E_a [] an (I 6) ([]) ?_ rfl))))))) (fun k7=>(zAc (zAa (zAe 4 (S_a [(7,.ret (PV.bool ((b.rs.getD i default).may.all fun x=>decide (0≤x)&&decide (x≤b.cr-1))) ([]))] (ap (f79_2 (b) (by omega) ((b.rs.getD i default).may) (by omega)) an) (zAe 2 (zAd (zLv (!(b.rs.getD i default).may.all fun x=>decide (0≤x)&&decide (x≤b.cr-1)) (fun k8=>(zAc (zAa (zAe 1 (zAd (zAJ (E_a [] an (I 1) ([]) ?_ rfl))))))) (fun k8=>(zAx (zAc (zAa (zAe 2 (S_a [(2,.ob),(0,.ob),(0,.ob),(0,.v (PV.sl (List.map I (List.take ((b.rs.getD i default).may.length-1) (List.drop 1 (b.rs.getD i default).may)))))] (ap ((by exact zAL (by simp only [List.length_map,zzLn,zAI]<;>omega)):Nat.ble 1 (List.map I (b.rs.getD i default).may).length=true) (ap ((by exact zAL (by simp only [List.length_map,zzLn,zAI]<;>omega)):(List.map I (b.rs.getD i default).may).length.ble (List.map I (b.rs.getD i default).may).length=true) (ap (?_:((List.map I (b.rs.getD i default).may).all fun x=>x.cells.length.beq ((fun x=>x.size) Try.prog.types[3]))=true) (ap ((by simp):PV.sl (List.take ((List.map I (b.rs.getD i default).may).length-1) (List.drop 1 (List.map I (b.rs.getD i default).may)))=PV.sl (List.map I (List.take ((b.rs.getD i default).may.length-1) (List.drop 1 (b.rs.getD i default).may)))) an)))) (S_a [(0,.n ((List.take ((b.rs.getD i default).may.length-1) (List.drop 1 (b.rs.getD i default).may)).length))] (ap ((by simp):some (List.map I (List.take ((b.rs.getD i default).may.length-1) (List.drop 1 (b.rs.getD i default).may))).length=some (List.take ((b.rs.getD i default).may.length-1) (List.drop 1 (b.rs.getD i default).may)).length) an) (zAe 1 (zAd (zAp 4 ?_)))))))))))))))))))))))))))))))))))) (fun k6=>(zBM 1 (zAc (zAa (zAe 1 (zAd (zAJ (E_a [] an (I 0) ([]) ?_ rfl)))))))))))))
 ·have e1:(b.rs.getD i default).may.length=0:=by omega
  have e2:zDq b.cr (b.rs.getD i default)=6:=by simp only [zDq,e1,if_true]
  rw [jz (by omega),e2];rfl
 ·have e1:¬ (b.rs.getD i default).may.length=0:=by omega
  have e2:zDq b.cr (b.rs.getD i default)=1:=by simp only [zDq,e1,k8,if_true,if_false]
  rw [jz (by omega),e2];rfl
 ·exact all_map _ (fun _=>by kernel_rfl)
 ·refine zBo (fun j=>j+1≤(b.rs.getD i default).may.length∧∀ t,t<j→(b.rs.getD i default).may.getD t 0<(b.rs.getD i default).may.getD (t+1) 0) (fun j=>[(62,I (j:Nat))]) (fun j=>(b.rs.getD i default).may.length-j) (0:Nat) ⟨by omega,by simp⟩ fun j ⟨hj,hja⟩=>?_
  have e1:¬ (b.rs.getD i default).may.length=0:=by omega
  have e2:(List.take ((b.rs.getD i default).may.length-1) (List.drop 1 (b.rs.getD i default).may)).length=(b.rs.getD i default).may.length-1:=by simp
  refine zAc (zAa (zAe 1 (zAd (zAc (zCL ((↑j:Int)<(↑(List.take ((b.rs.getD i default).may.length-1) (List.drop 1 (b.rs.getD i default).may)).length:Int)) (fun k9=>(zAx (zAc (zAp 5 (zAc (zAa (zAe 2 (zAd (zAc (zAa (zAe 3 (S_a [(2,.v (I ((b.rs.getD i default).may.getD j 0)))] (ap (zCG (0) (by omega):(List.map I (b.rs.getD i default).may)[j]? = some (I ((b.rs.getD i default).may.getD j 0))) an) (zAe 4 (S_a [(1,.v (I (↑(j+1):Int)))] (ap ((zAR (by omega) (by omega)):I (IntKind.i64.wrap ((↑j:Int)+1))=I (↑(j+1):Int)) an) (S_a [(2,.v (I ((b.rs.getD i default).may.getD (j+1) 0)))] (ap (zCG (0) (by omega):(List.map I (b.rs.getD i default).may)[j+1]? = some (I ((b.rs.getD i default).may.getD (j+1) 0))) an) (zAe 2 (zAd (zCL ((b.rs.getD i default).may.getD j 0≥(b.rs.getD i default).may.getD (j+1) 0) (fun k10=>(zAc (zAa (zAe 1 (zAd (zAJ (E_a [] an (I 4) ([]) ?_ rfl))))))) (fun k10=>(zAx (zAa (S_a [(1,.v (I (↑(j+1):Int)))] (ap ((zAR (by omega) (by omega)):I (IntKind.i64.wrap ((↑j:Int)+1))=I (↑(j+1):Int)) an) (zAe 1 (zAd ?_)))))))))))))))))))))))) (fun k9=>(zBM 4 (zAa (S_a [(1,.v (I (↑(i+1):Int)))] (ap ((zAR (by omega) (by omega)):I (IntKind.i64.wrap ((↑i:Int)+1))=I (↑(i+1):Int)) an) (zAe 1 (zAd ?_)))))))))))
  ·have e3:zDq b.cr (b.rs.getD i default)=4:=by
    simp only [zDq,e1,k8,zVB (l:=(b.rs.getD i default).may) (j:=j) (by omega) k10];rfl
   rw [jz (by omega),e3];rfl
  ·refine ⟨j+1,⟨by omega,fun t ht=>?_⟩,by omega,by kernel_rfl,by kernel_rfl⟩
   rcases Nat.lt_succ_iff_lt_or_eq.1 ht with h | rfl
   ·exact hja t h
   ·omega
  ·have e3:zDq b.cr (b.rs.getD i default)=0:=by
    simp only [zDq,e1,k8,zRe (l:=(b.rs.getD i default).may) fun t ht=>hja t (by omega)];rfl
   refine ⟨i+1,⟨by omega,?_⟩,by omega,by kernel_rfl,by kernel_rfl⟩
   rw [jz (by omega),e3];rfl
 ·have:i=b.rs.length:=by omega
  rw [hr,this];simp [zC7]
end
end Go.Eng
set_option maxRecDepth 10000
set_option maxHeartbeats 2000000
namespace Go.Eng
open Go Go.Proofs
structure Good (b:Dk):Prop where
 cr:1≤b.cr∧b.cr≤4
 len:b.rs.length≤7
 wd:0≤b.wd∧b.wd≤20
 st:0≤b.st∧b.st≤20
 fn:0≤b.fn∧b.fn≤20
 num:∀ r∈b.rs,(1≤r.w∧r.w≤9)∧1≤r.s∧r.s≤5
 may:∀ r∈b.rs,r.may.length≠0∧(∀ x∈r.may,0≤x∧x≤b.cr-1)∧zMR r.may=true
theorem zQf {cr:Int}:∀ {l:List Rnd},zC7 cr l=0→∀ r∈l,r.may.length≠0∧(∀ x∈r.may,0≤x∧x≤cr-1)∧zMR r.may=true
 | [],_,r,hr=>by cases hr
 | q :: l, h,r,hr=>by
  simp only [zC7] at h
  by_cases h0:zDq cr q=0
  ·rw [if_pos h0] at h
   rcases List.mem_cons.1 hr with rfl | hr
   ·simp only [zDq] at h0
    split at h0
    ·cases h0
    ·rename_i h1
     split at h0
     ·cases h0
     ·rename_i h2
      split at h0
      ·cases h0
      ·rename_i h3
       exact ⟨h1,zPO (by simpa using h2),by simpa using h3⟩
   ·exact zQf h r hr
  ·rw [if_neg h0] at h;exact absurd h h0
theorem zBl {b:Dk} (h:zBc b=0):Good b:=by
 simp only [zBc] at h
 split at h
 ·cases h
 rename_i h1
 split at h
 ·cases h
 rename_i h2
 split at h
 ·cases h
 rename_i h3
 split at h
 ·cases h
 rename_i h4
 split at h
 ·cases h
 rename_i h5
 split at h
 ·cases h
 rename_i h6
 refine ⟨zLT (by simpa using h1),by omega,zLT (by simpa using h3),zLT (by simpa using h4),zLT (by simpa using h5),fun r hr=>?_,zQf h⟩
 have:b.rs.all zCv=true:=by simpa using h6
 have:=List.all_eq_true.1 this r hr
 simp only [zCv,Bool.and_eq_true,decide_eq_true_eq] at this
 exact this
def zBW (b:Dk) (r:Rnd):Int:=r.s*(b.st+r.w*b.wd)
def zAg (b:Dk):List Int:=b.rs.map (zBW b)
theorem zF1 {b:Dk} {r:Rnd} (h:Good b) (hr:(1≤r.w∧r.w≤9)∧1≤r.s∧r.s≤5):0≤zBW b r∧zBW b r≤1000:=by
 have h1:=h.wd
 have h2:=h.st
 have h3:0≤r.w*b.wd:=Int.mul_nonneg (by omega) (by omega)
 have h4:r.w*b.wd≤9*20:=Int.mul_le_mul (by omega) (by omega) (by omega) (by omega)
 refine ⟨Int.mul_nonneg (by omega) (by omega),?_⟩
 have h5:r.s*(b.st+r.w*b.wd)≤5*(20+9*20):=Int.mul_le_mul (by omega) (by omega) (by omega) (by omega)
 unfold zBW;omega
theorem zEM {b:Dk} {i:Nat} (h:i<b.rs.length):(zAg b).getD i 0=zBW b (b.rs.getD i default):=by
 rw [zAK (by simpa [zAg] using h),zAK h];simp [zAg]
theorem zCb {b:Dk}:(zAg b).length=b.rs.length:=by simp [zAg]
theorem zJm {b:Dk} (h:Good b) {i:Nat} (hi:i<b.rs.length):(1≤(b.rs.getD i default).w∧(b.rs.getD i default).w≤9)∧1≤(b.rs.getD i default).s∧(b.rs.getD i default).s≤5:=by
 rw [zAK hi];exact h.num _ (List.getElem_mem hi)
theorem zBx {b:Dk} (h:Good b) (i:Nat):0≤(zAg b).getD i 0∧(zAg b).getD i 0≤1000:=by
 rcases Nat.lt_or_ge i b.rs.length with hi | hi
 ·rw [zEM hi];exact zF1 h (zJm h hi)
 ·rw [List.getD_eq_getElem?_getD,List.getElem?_eq_none (by rw [zCb];exact hi)];simp
theorem zCA {b:Dk} (h:Good b) {i:Nat} (hi:i<b.rs.length):(b.rs.getD i default).may.length≠0∧(∀ x∈(b.rs.getD i default).may,0≤x∧x≤b.cr-1)∧zMR (b.rs.getD i default).may=true:=by
 rw [zAK hi];exact h.may _ (List.getElem_mem hi)
section
variable [Yo]
theorem f101_1 (b:Dk) (hb:zGe b) (h:zBc b=0):FG 101 [zEZ b] (.tup [.ref (zBs b (zAg b)),I 0]):=by
 refine zAi Try.f101 ?_
 have hg:=zBl h
 have hO:=hg.len
 refine zAc (zAa (zAe 3 (zAd (zAc (zAc (zAa (zAe 1 (S_a [(6,.ret (I (zBc b)) ([]))] (ap (f58 (b) (by omega)) an) (zAe 1 (zAd (zAc (zAa (zAe 2 (zAd (zIL (zBc b=0) (by omega) (zAx (zAc (zAa (zAe 4 (zAd (zAc (zAc (zAa (zAe 2 (S_a [(0,.n (b.rs.length))] (ap ((by simp):some (List.map zBb b.rs).length=some b.rs.length) an) (zAe 1 (zAd (zAp 0 ?_))))))))))))))))))))))))))))
 refine zBo (fun (i,f)=>i≤b.rs.length∧f=(zAg b).take i) (fun (i,f)=>[(5,.box (.agg [I b.cr,I b.wd,I b.st,I b.fn,.sl (b.rs.map zBb),.own 1 (f.map I)])),(19,I (i:Nat))]) (fun (i,_)=>b.rs.length-i) ((0:Nat),([]:List Int)) ⟨Nat.zero_le _,rfl⟩ fun (i,f) ⟨hi,hf⟩=>?_
 have h1:=hg.wd
 have h2:=hg.st
 have h3:i<b.rs.length→_:=fun h=>zJm hg h
 have h4:i<b.rs.length→0≤(b.rs.getD i default).w*b.wd∧(b.rs.getD i default).w*b.wd≤9*20:=fun h=>⟨Int.mul_nonneg (by have:=h3 h;omega) (by omega),Int.mul_le_mul (by have:=h3 h;omega) (by omega) (by omega) (by omega)⟩
 have h5:i<b.rs.length→0≤(b.rs.getD i default).s*(b.st+(b.rs.getD i default).w*b.wd)∧(b.rs.getD i default).s*(b.st+(b.rs.getD i default).w*b.wd)≤1000:=fun h=>zF1 hg (h3 h)
 have hl:f.length=i:=by rw [hf];simp [zAg];omega
 refine zAc (zAa (zAe 1 (zAd (zAc (zCL ((↑i:Int)<(↑b.rs.length:Int)) (fun k0=>(zAx (zAc (zAp 1 (zAc (zAa (S_a [(2,.v (PV.agg [I (b.rs.getD i default).w,I (b.rs.getD i default).s,PV.sl (List.map I (b.rs.getD i default).may)]))] (ap (zCG (default) (by omega):(List.map zBb b.rs)[i]? = some (PV.agg [I (b.rs.getD i default).w,I (b.rs.getD i default).s,PV.sl (List.map I (b.rs.getD i default).may)])) an) (zAe 3 (zAd (zAa (zAe 4 (S_a [(1,.v (PV.bor 5 [(0,5)] 1 0 f.length))] (ap ((by simp):PV.bor 5 [(0,5)] 1 0 (List.map I f).length=PV.bor 5 [(0,5)] 1 0 f.length) an) (zAe 8 (S_a [(1,.v (I ((b.rs.getD i default).w*b.wd)))] (ap ((zAR rfl (by omega)):I (IntKind.i64.wrap ((b.rs.getD i default).w*b.wd))=I ((b.rs.getD i default).w*b.wd)) an) (S_a [(1,.v (I (b.st+(b.rs.getD i default).w*b.wd)))] (ap ((zAR rfl (by omega)):I (IntKind.i64.wrap (b.st+(b.rs.getD i default).w*b.wd))=I (b.st+(b.rs.getD i default).w*b.wd)) an) (S_a [(1,.v (I ((b.rs.getD i default).s*(b.st+(b.rs.getD i default).w*b.wd))))] (ap ((zAR rfl (by omega)):I (IntKind.i64.wrap ((b.rs.getD i default).s*(b.st+(b.rs.getD i default).w*b.wd)))=I ((b.rs.getD i default).s*(b.st+(b.rs.getD i default).w*b.wd))) an) (zAe 1 (S_a [(4,.ob),(0,.ob),(0,.yes),(2,.v (PV.own 1 (List.map I (f++[(b.rs.getD i default).s*(b.st+(b.rs.getD i default).w*b.wd)]))))] (ap ((by exact zAL (by simp only [List.length_map,zzLn,zAI]<;>omega)):(0+f.length).ble (List.map I f).length=true) (ap ((by exact zAL (by simp only [List.length_map,zzLn,zAI]<;>omega)):((List.map I f).length + [I ((b.rs.getD i default).s*(b.st+(b.rs.getD i default).w*b.wd))].length).ble zAI=true) (ap ((by exact zB0 (by simp<;>omega)):(0+f.length).beq (List.map I f).length=true) (ap ((by simp):PV.own 1 (List.map I f++[I ((b.rs.getD i default).s*(b.st+(b.rs.getD i default).w*b.wd))])=PV.own 1 (List.map I (f++[(b.rs.getD i default).s*(b.st+(b.rs.getD i default).w*b.wd)]))) an)))) (zAe 3 (zAd (zAa (S_a [(1,.v (I (↑(i+1):Int)))] (ap ((zAR (by omega) (by omega)):I (IntKind.i64.wrap ((↑i:Int)+1))=I (↑(i+1):Int)) an) (zAe 1 (zAd ?_)))))))))))))))))))))))) (fun k0=>(zBM 0 (zAc (zAa (zAe 1 (zAe 1 (zAe 1 (zAd (zAJ (E_a [(1,.env ([(1,(PV.agg [I b.cr,I b.wd,I b.st,I b.fn,PV.sl (List.map zBb b.rs)]).box),(2,(PV.agg [I b.cr,I b.wd,I b.st,I b.fn,PV.sl (List.map zBb b.rs),PV.sl (List.map I f)]).ref),(3,I 0),(4,I (zBc b)),(5,(PV.agg [I b.cr,I b.wd,I b.st,I b.fn,PV.sl (List.map zBb b.rs),PV.sl (List.map I f)]).ref),(11,PV.bool (zBc b != 0)),(16,PV.addr 1 [] 0 4 none),(17,PV.sl (List.map zBb b.rs)),(18,I (↑b.rs.length:Int)),(19,I (↑i:Int)),(20,PV.bool (decide ((↑i:Int)<(↑b.rs.length:Int)))),(44,(PV.agg [I b.cr,I b.wd,I b.st,I b.fn,PV.sl (List.map zBb b.rs),PV.sl (List.map I f)]).ref)])),(0,.v ((PV.agg [I b.cr,I b.wd,I b.st,I b.fn,PV.sl (List.map zBb b.rs),PV.sl (List.map I f)]).ref))] (ap (Eq.trans (by kernel_rfl:Env.frz [(1,(PV.agg [I b.cr,I b.wd,I b.st,I b.fn,PV.sl (List.map zBb b.rs)]).box),(2,PV.addr 5 [] 0 0 (some 6)),(3,I 0),(4,I (zBc b)),(5,(PV.agg [I b.cr,I b.wd,I b.st,I b.fn,PV.sl (List.map zBb b.rs),PV.own 1 (List.map I f)]).box),(11,PV.bool (zBc b != 0)),(16,PV.addr 1 [] 0 4 none),(17,PV.sl (List.map zBb b.rs)),(18,I (↑b.rs.length:Int)),(19,I (↑i:Int)),(20,PV.bool (decide ((↑i:Int)<(↑b.rs.length:Int)))),(44,PV.addr 5 [] 0 0 (some 6))] 5 []=some [(1,(PV.agg [I b.cr,I b.wd,I b.st,I b.fn,PV.sl (List.map zBb b.rs)]).box),(2,(PV.agg [I b.cr,I b.wd,I b.st,I b.fn,PV.sl (List.map zBb b.rs),PV.sl (zAo (List.map I f))]).ref),(3,I 0),(4,I (zBc b)),(5,(PV.agg [I b.cr,I b.wd,I b.st,I b.fn,PV.sl (List.map zBb b.rs),PV.sl (zAo (List.map I f))]).ref),(11,PV.bool (zBc b != 0)),(16,PV.addr 1 [] 0 4 none),(17,PV.sl (List.map zBb b.rs)),(18,I (↑b.rs.length:Int)),(19,I (↑i:Int)),(20,PV.bool (decide ((↑i:Int)<(↑b.rs.length:Int)))),(44,(PV.agg [I b.cr,I b.wd,I b.st,I b.fn,PV.sl (List.map zBb b.rs),PV.sl (zAo (List.map I f))]).ref)]) ((by simp only [show zAo (List.map I f)=List.map I f from (by first | exact zA6 _ | exact zAu _ | exact zAE (zAu _) | exact zD4 (by simp [zDg]) (zA6 _))]):some [(1,(PV.agg [I b.cr,I b.wd,I b.st,I b.fn,PV.sl (List.map zBb b.rs)]).box),(2,(PV.agg [I b.cr,I b.wd,I b.st,I b.fn,PV.sl (List.map zBb b.rs),PV.sl (zAo (List.map I f))]).ref),(3,I 0),(4,I (zBc b)),(5,(PV.agg [I b.cr,I b.wd,I b.st,I b.fn,PV.sl (List.map zBb b.rs),PV.sl (zAo (List.map I f))]).ref),(11,PV.bool (zBc b != 0)),(16,PV.addr 1 [] 0 4 none),(17,PV.sl (List.map zBb b.rs)),(18,I (↑b.rs.length:Int)),(19,I (↑i:Int)),(20,PV.bool (decide ((↑i:Int)<(↑b.rs.length:Int)))),(44,(PV.agg [I b.cr,I b.wd,I b.st,I b.fn,PV.sl (List.map zBb b.rs),PV.sl (zAo (List.map I f))]).ref)]=some [(1,(PV.agg [I b.cr,I b.wd,I b.st,I b.fn,PV.sl (List.map zBb b.rs)]).box),(2,(PV.agg [I b.cr,I b.wd,I b.st,I b.fn,PV.sl (List.map zBb b.rs),PV.sl (List.map I f)]).ref),(3,I 0),(4,I (zBc b)),(5,(PV.agg [I b.cr,I b.wd,I b.st,I b.fn,PV.sl (List.map zBb b.rs),PV.sl (List.map I f)]).ref),(11,PV.bool (zBc b != 0)),(16,PV.addr 1 [] 0 4 none),(17,PV.sl (List.map zBb b.rs)),(18,I (↑b.rs.length:Int)),(19,I (↑i:Int)),(20,PV.bool (decide ((↑i:Int)<(↑b.rs.length:Int)))),(44,(PV.agg [I b.cr,I b.wd,I b.st,I b.fn,PV.sl (List.map zBb b.rs),PV.sl (List.map I f)]).ref)])) (ap ((by simp only [show zAo (List.map I f)=List.map I f from (by first | exact zA6 _ | exact zAu _ | exact zAE (zAu _) | exact zD4 (by simp [zDg]) (zA6 _))]):(PV.agg [I b.cr,I b.wd,I b.st,I b.fn,PV.sl (List.map zBb b.rs),PV.sl (zAo (List.map I f))]).ref=(PV.agg [I b.cr,I b.wd,I b.st,I b.fn,PV.sl (List.map zBb b.rs),PV.sl (List.map I f)]).ref) an)) (PV.tup [(PV.agg [I b.cr,I b.wd,I b.st,I b.fn,PV.sl (List.map zBb b.rs),PV.sl (List.map I f)]).ref,I 0]) ([]) ?_ rfl)))))))))))))))
 ·refine ⟨(i+1,f++[(b.rs.getD i default).s*(b.st+(b.rs.getD i default).w*b.wd)]),⟨by omega,?_⟩,by simp only;omega,by kernel_rfl,by kernel_rfl⟩
  rw [hf,List.take_add_one,List.getElem?_eq_getElem (by rw [zCb];omega)]
  have:=zEM (b:=b) (i:=i) (by omega)
  rw [zAK (by rw [zCb];omega)] at this
  rw [this];rfl
 ·rw [hf,List.take_of_length_le (by rw [zCb];omega)]
theorem f101_2 (b:Dk) (hb:zGe b) (h:¬ zBc b=0):FG 101 [zEZ b] (.tup [.nilp,I (zBc b)]):=by
 refine zAi Try.f101 ?_
 refine zAc (zAa (zAe 3 (zAd (zAc (zAc (zAa (zAe 1 (S_a [(6,.ret (I (zBc b)) ([]))] (ap (f58 (b) (by omega)) an) (zAe 1 (zAd (zAc (zAa (zAe 2 (zAd (zGI (zBc b=0) (by omega) (zAc (zAa (zAe 3 (zAd (zAJ (E_a [] an (PV.tup [PV.nilp,I (zBc b)]) ([]) rfl rfl)))))))))))))))))))))
def zH9 (b:Dk) (l:List Int):Bool:=(List.range l.length).all fun r=>has (rnd b r).may (l.getD r 0)
def zAG (b:Dk) (l:List Int):Int :=
 if zBc b=0 then if l.length=b.rs.length then if !l.all (fun x=>decide (0≤x)&&decide (x≤b.cr-1)) then 1 else if zH9 b l then 0 else 8 else 2 else zBc b
omit [Yo] in
theorem zIh {b:Dk} {l:List Int} (h:∀ r,r<l.length→has (rnd b r).may (l.getD r 0)=true):zH9 b l=true:=by
 simp only [zH9,List.all_eq_true,List.mem_range];exact h
omit [Yo] in
theorem zS3 {b:Dk} {l:List Int} {r:Nat} (hr:r<l.length) (h:(!has (rnd b r).may (l.getD r 0))=true):zH9 b l=false:=by
 simp only [zH9,List.all_eq_false]
 exact ⟨r,List.mem_range.2 hr,by simpa using h⟩
omit [Yo] in
theorem zF6 {b:Dk} {l:List Int} (h:zH9 b l=true) {r:Nat} (hr:r<l.length):has (rnd b r).may (l.getD r 0)=true:=by
 simp only [zH9,List.all_eq_true,List.mem_range] at h;exact h r hr
structure ShareOk (b:Dk) (l:List Int):Prop where
 box:zBc b=0
 len:l.length=b.rs.length
 rng:∀ x∈l,0≤x∧x≤b.cr-1
 may:zH9 b l=true
omit [Yo] in
theorem zLx {b:Dk} {l:List Int} (h:zAG b l=0):ShareOk b l:=by
 simp only [zAG] at h
 split at h
 ·split at h
  ·split at h
   ·cases h
   ·rename_i h3
    split at h
    ·exact ⟨by assumption,by assumption,zPO (by simpa using h3),by assumption⟩
    ·cases h
  ·cases h
 ·exact absurd h (by assumption)
theorem f88_1 (b:Dk) (l:List Int) (hb:zGe b) (h:zAG b l=0):FG 88 [zEZ b,zCm l] (.tup [.ref (zBs b (zAg b)),I 0]):=by
 obtain ⟨h0,h1,h2,h3⟩:=zLx h
 have hg:=zBl h0
 have jD:=hg.cr
 have kG:=hg.len
 have jF:l.all (fun x=>decide (0≤x)&&decide (x≤b.cr-1))=true:=by
  simp only [List.all_eq_true];intro x hx;have:=h2 x hx;simp;omega
 refine zAi Try.f88 ?_
 refine zAc (zAa (zAe 3 (zAd (zAc (zAa (zAe 1 (S_a [(6,.ret (PV.tup [(zBs b (zAg b)).ref,I 0]) ([]))] (ap (f101_1 (b) (by omega) (by omega)) an) (zAe 5 (zAd (zAc (zAp 0 (zAc (zAa (zAe 3 (zAd (zBE (zAc (zAa (zAe 1 (S_a [(0,.n (l.length))] (ap ((by simp):some (List.map I l).length=some l.length) an) (zAe 2 (S_a [(0,.n (b.rs.length))] (ap ((by simp):some (List.map zBb b.rs).length=some b.rs.length) an) (zAe 2 (zAd (zIL ((↑l.length:Int)=(↑b.rs.length:Int)) (by omega) (zAc (zAa (zAe 3 (S_a [(7,.ret (PV.bool (l.all fun x=>decide (0≤x)&&decide (x≤b.cr-1))) ([]))] (ap (f79_2 (b) (by omega) (l) (by omega)) an) (zAe 2 (zAd (zLv (!l.all fun x=>decide (0≤x)&&decide (x≤b.cr-1)) (fun k0=>(zAc (zAa (zAe 2 (zAd (zAJ (E_a [] an (PV.tup [PV.nilp,I 1]) ([]) ?_ rfl))))))) (fun k0=>(zAx (zAc (zAc (zAa (zAe 1 (S_a [(0,.n (l.length))] (ap ((by simp):some (List.map I l).length=some l.length) an) (zAe 1 (zAd (zAp 1 ?_))))))))))))))))))))))))))))))))))))))))))
 ·rw [jF] at k0;cases k0
 refine zBo (fun i=>i≤l.length) (fun i=>[(34,I (i:Nat))]) (fun i=>l.length-i) (0:Nat) (Nat.zero_le _) fun i hi=>?_
 have h4:i<l.length→has (rnd b i).may (l.getD i 0)=true:=fun h=>zF6 h3 h
 refine zAc (zAa (zAe 1 (zAd (zAc (zCL ((↑i:Int)<(↑l.length:Int)) (fun k1=>(zAx (zAc (zAp 2 (zAc (zAa (zAe 1 (S_a [(2,.v (I (l.getD i 0)))] (ap (zCG (0) (by omega):(List.map I l)[i]? = some (I (l.getD i 0))) an) (zAe 3 (zAd (zAc (zAa (zAe 3 (S_a [(9,.ret (PV.bool (has (rnd b i).may (l.getD i 0))) ([]))] (ap (f98 (b) (zAg b) (l.getD i 0) (i) (by first | omega | (simp<;>omega)) (by omega)) an) (zAe 1 (zAd (zLv (!has (rnd b i).may (l.getD i 0)) (fun k2=>(zAc (zAa (zAe 2 (zAd (zAJ (E_a [] an (PV.tup [PV.nilp,I 8]) ([]) ?_ rfl))))))) (fun k2=>(zAx (zAa (S_a [(1,.v (I (↑(i+1):Int)))] (ap ((zAR (by omega) (by omega)):I (IntKind.i64.wrap ((↑i:Int)+1))=I (↑(i+1):Int)) an) (zAe 1 (zAd ?_))))))))))))))))))))))) (fun k1=>(zBM 1 (zAc (zAa (zAe 3 (zAd (zAJ (E_a [] an (PV.tup [(PV.agg [I b.cr,I b.wd,I b.st,I b.fn,PV.sl (List.map zBb b.rs),PV.sl (List.map I (zAg b))]).ref,I 0]) ([]) rfl rfl)))))))))))))
 ·rw [h4 (by omega)] at k2;cases k2
 ·exact ⟨i+1,by omega,by omega,by kernel_rfl,by kernel_rfl⟩
theorem f88_2 (b:Dk) (l:List Int) (hb:zGe b) (hl:l.length<4294967296) (h:¬ zAG b l=0):FG 88 [zEZ b,zCm l] (.tup [.nilp,I (zAG b l)]):=by
 by_cases h0:zBc b=0
 ·have hg:=zBl h0
  have jD:=hg.cr
  have kG:=hg.len
  refine zAi Try.f88 ?_
  refine zAc (zAa (zAe 3 (zAd (zAc (zAa (zAe 1 (S_a [(6,.ret (PV.tup [(zBs b (zAg b)).ref,I 0]) ([]))] (ap (f101_1 (b) (by omega) (by omega)) an) (zAe 5 (zAd (zAc (zAp 0 (zAc (zAa (zAe 3 (zAd (zBE (zAc (zAa (zAe 1 (S_a [(0,.n (l.length))] (ap ((by simp):some (List.map I l).length=some l.length) an) (zAe 2 (S_a [(0,.n (b.rs.length))] (ap ((by simp):some (List.map zBb b.rs).length=some b.rs.length) an) (zAe 2 (zAd (zJI ((↑l.length:Int)=(↑b.rs.length:Int)) (fun k0=>(zAc (zAa (zAe 2 (zAd (zAJ (E_a [] an (PV.tup [PV.nilp,I 2]) ([]) ?_ rfl))))))) (fun k0=>(zAc (zAa (zAe 3 (S_a [(7,.ret (PV.bool (l.all fun x=>decide (0≤x)&&decide (x≤b.cr-1))) ([]))] (ap (f79_2 (b) (by omega) (l) (by omega)) an) (zAe 2 (zAd (zLv (!l.all fun x=>decide (0≤x)&&decide (x≤b.cr-1)) (fun k1=>(zAc (zAa (zAe 2 (zAd (zAJ (E_a [] an (PV.tup [PV.nilp,I 1]) ([]) ?_ rfl))))))) (fun k1=>(zAx (zAc (zAc (zAa (zAe 1 (S_a [(0,.n (l.length))] (ap ((by simp):some (List.map I l).length=some l.length) an) (zAe 1 (zAd (zAp 1 ?_)))))))))))))))))))))))))))))))))))))))))))
  ·have e:¬ l.length=b.rs.length:=by omega
   simp only [zAG,h0,e,if_true,if_false]
  ·have e:l.length=b.rs.length:=by omega
   simp only [zAG,h0,e,k1,if_true]
  have e:l.length=b.rs.length:=by omega
  refine zBo (fun i=>i≤l.length∧∀ r,r<i→has (rnd b r).may (l.getD r 0)=true) (fun i=>[(34,I (i:Nat))]) (fun i=>l.length-i) (0:Nat) ⟨Nat.zero_le _,by simp⟩ fun i ⟨hi,ha⟩=>?_
  refine zAc (zAa (zAe 1 (zAd (zAc (zCL ((↑i:Int)<(↑l.length:Int)) (fun k2=>(zAx (zAc (zAp 2 (zAc (zAa (zAe 1 (S_a [(2,.v (I (l.getD i 0)))] (ap (zCG (0) (by omega):(List.map I l)[i]? = some (I (l.getD i 0))) an) (zAe 3 (zAd (zAc (zAa (zAe 3 (S_a [(9,.ret (PV.bool (has (rnd b i).may (l.getD i 0))) ([]))] (ap (f98 (b) (zAg b) (l.getD i 0) (i) (by first | omega | (simp<;>omega)) (by omega)) an) (zAe 1 (zAd (zLv (!has (rnd b i).may (l.getD i 0)) (fun k3=>(zAc (zAa (zAe 2 (zAd (zAJ (E_a [] an (PV.tup [PV.nilp,I 8]) ([]) ?_ rfl))))))) (fun k3=>(zAx (zAa (S_a [(1,.v (I (↑(i+1):Int)))] (ap ((zAR (by omega) (by omega)):I (IntKind.i64.wrap ((↑i:Int)+1))=I (↑(i+1):Int)) an) (zAe 1 (zAd ?_))))))))))))))))))))))) (fun k2=>(zBM 1 (zAc (zAa (zAe 3 (zAd (zAJ (E_a [] an (PV.tup [(PV.agg [I b.cr,I b.wd,I b.st,I b.fn,PV.sl (List.map zBb b.rs),PV.sl (List.map I (zAg b))]).ref,I 0]) ([]) ?_ rfl)))))))))))))
  ·simp only [zAG,h0,e,k1,if_true,zS3 (b:=b) (l:=l) (r:=i) (by omega) k3];rfl
  ·refine ⟨i+1,⟨by omega,fun r hr=>?_⟩,by omega,by kernel_rfl,by kernel_rfl⟩
   rcases Nat.lt_succ_iff_lt_or_eq.1 hr with hr | rfl
   ·exact ha r hr
   ·simpa using k3
  ·have:zAG b l=0:=by simp only [zAG,h0,e,k1,if_true,zIh (b:=b) (l:=l) fun r hr=>ha r (by omega)];rfl
   exact absurd this h
 ·have e:zAG b l=zBc b:=by simp only [zAG,h0,if_false]
  rw [e]
  refine zAi Try.f88 ?_
  refine zAc (zAa (zAe 3 (zAd (zAc (zAa (zAe 1 (S_a [(6,.ret (PV.tup [PV.nilp,I (zBc b)]) ([]))] (ap (f101_2 (b) (by omega) (by omega)) an) (zAe 5 (zAd (zAc (zAp 0 (zAc (zAa (zAe 3 (zAd (zGI (zBc b=0) (by omega) (zAc (zAa (zAe 3 (zAd (zAJ (E_a [] an (PV.tup [PV.nilp,I (zBc b)]) ([]) rfl rfl))))))))))))))))))))))
def zFl (fee zAk:List Int):Nat→List Int
 | 0=>[0,0,0,0]
 | n+1=>(zFl fee zAk n).set (zAk.getD n 0).toNat ((zFl fee zAk n).getD (zAk.getD n 0).toNat 0+fee.getD n 0)
omit [Yo] in
theorem zDe {fee zAk:List Int}:∀ n,(zFl fee zAk n).length=4
 | 0=>rfl
 | n+1=>by simp [zFl,zDe n]
omit [Yo] in
theorem zGs {fee zAk:List Int} (h:∀ i,0≤fee.getD i 0∧fee.getD i 0≤1000):∀ (n i:Nat),0≤(zFl fee zAk n).getD i 0∧(zFl fee zAk n).getD i 0≤1000*n
 | 0,i=>by
  match i with
  | 0=>simp [zFl]
  | 1=>simp [zFl]
  | 2=>simp [zFl]
  | 3=>simp [zFl]
  | _+4=>simp [zFl]
 | n+1,i=>by
  have h1:=zGs (zAk:=zAk) h n i
  have h2:=zGs (zAk:=zAk) h n (zAk.getD n 0).toNat
  have h3:=h n
  rw [zFl,zGU]
  split<;>omega
omit [Yo] in
theorem zFE {l:List Int} (h:l.length=4):∃ a b c d,l=[a,b,c,d]:=by
 match l,h with
 | [a,b,c,d],_=>exact ⟨a,b,c,d,rfl⟩
theorem f90 (b:Dk) (fee zAk:List Int) (h1:∀ x∈zAk,0≤x∧x<4) (h2:∀ i,0≤fee.getD i 0∧fee.getD i 0≤1000) (h3:zAk.length≤1000) (h4:zAk.length=fee.length):FG 90 [.ref (zBs b fee),zCm zAk] (.agg ((zFl fee zAk zAk.length).map I)):=by
 refine zAi Try.f90 ?_
 refine zAc (zAa (zAe 1 (zAd (zAc (zAa (zAe 1 (zAd (zAc (zAc (zAa (zAe 1 (S_a [(0,.n (zAk.length))] (ap ((by simp):some (List.map I zAk).length=some zAk.length) an) (zAe 1 (zAd (zAp 0 ?_)))))))))))))))
 refine zBo (fun (i,f)=>i≤zAk.length∧f=zFl fee zAk i) (fun (i,f)=>[(5,.box (.agg (f.map I))),(10,I (i:Nat))]) (fun (i,_)=>zAk.length-i) ((0:Nat),zFl fee zAk 0) ⟨Nat.zero_le _,rfl⟩ fun (i,f) ⟨hi,hf⟩=>?_
 have jo:f.length=4:=by rw [hf];exact zDe i
 have hx:i<zAk.length→0≤zAk.getD i 0∧zAk.getD i 0<4:=fun h=>zBB h1 i h
 have yX:=zGs (zAk:=zAk) h2 i (zAk.getD i 0).toNat
 rw [← hf] at yX
 have jS:=h2 i
 refine zAc (zAa (zAe 1 (zAd (zAc (zCL ((↑i:Int)<(↑zAk.length:Int)) (fun k0=>(zAx (zAc (zAp 1 (zAc (zAa (zAe 1 (S_a [(2,.v (I (zAk.getD i 0)))] (ap (zCG (0) (by omega):(List.map I zAk)[i]? = some (I (zAk.getD i 0))) an) (zAe 3 (zAd (zAa (zAe 1 (S_a [(0,.ob),(1,.ob)] (ap ((by exact zA8 (by omega)):decide (0≤zAk.getD i 0)=true) (ap ((by exact zA8 (by omega)):decide ((zAk.getD i 0).toNat<4)=true) an)) (S_a [(0,.cs true ([I (f.getD (zAk.getD i 0).toNat 0)]))] (ap (zEJ (q:=(PV.agg (List.map I f)).box) (xs:=[PV.agg (List.map I f)]) (x:=PV.agg (List.map I f)) rfl rfl (zU3 (c:=(zAk.getD i 0).toNat) (0) (by first | rfl | exact zTt (by kernel_rfl) | exact zS4 (by kernel_rfl) | (simp;done)) (by omega)):zAH 5 (PV.agg (List.map I f)).box [] 0 (0+(zAk.getD i 0).toNat*(fun x=>x.size) Try.prog.types[3]) 1=some (true,[I (f.getD (zAk.getD i 0).toNat 0)])) an) (zAe 5 (S_a [(2,.v (I (fee.getD i 0)))] (ap (zCG (0) (by omega):(List.map I fee)[i]? = some (I (fee.getD i 0))) an) (zAe 1 (S_a [(1,.v (I (f.getD (zAk.getD i 0).toNat 0+fee.getD i 0)))] (ap ((zAR rfl (by omega)):I (IntKind.i64.wrap (f.getD (zAk.getD i 0).toNat 0+fee.getD i 0))=I (f.getD (zAk.getD i 0).toNat 0+fee.getD i 0)) an) (S_a [(0,.ob),(1,.ob)] (ap ((by exact zA8 (by omega)):decide (0≤zAk.getD i 0)=true) (ap ((by exact zA8 (by omega)):decide ((zAk.getD i 0).toNat<4)=true) an)) (S_a [(8,.root ((PV.agg (List.map I (f.set (zAk.getD i 0).toNat (f.getD (zAk.getD i 0).toNat 0+fee.getD i 0)))).box) true)] (ap (zVc (c:=(zAk.getD i 0).toNat) (by first | rfl | exact zTt (by kernel_rfl) | exact zS4 (by kernel_rfl) | (simp;done)) (by omega):zBL (PV.agg (List.map I f)).box [] 0 (0+(zAk.getD i 0).toNat*(fun x=>x.size) Try.prog.types[3]) (I (f.getD (zAk.getD i 0).toNat 0+fee.getD i 0)).cells=some (PV.agg (List.map I (f.set (zAk.getD i 0).toNat (f.getD (zAk.getD i 0).toNat 0+fee.getD i 0)))).box∧zAM (PV.agg (List.map I f)).box (PV.agg (List.map I (f.set (zAk.getD i 0).toNat (f.getD (zAk.getD i 0).toNat 0+fee.getD i 0)))).box []=true) an) (zAd (zAa (S_a [(1,.v (I (↑(i+1):Int)))] (ap ((zAR (by omega) (by omega)):I (IntKind.i64.wrap ((↑i:Int)+1))=I (↑(i+1):Int)) an) (zAe 1 (zAd ?_))))))))))))))))))))))))) (fun k0=>(zBM 0 (zAc (zAa ?_)))))))))
 ·exact ⟨(i+1,f.set (zAk.getD i 0).toNat (f.getD (zAk.getD i 0).toNat 0+fee.getD i 0)),⟨by omega,by rw [hf];rfl⟩,by simp only;omega,by kernel_rfl,by kernel_rfl⟩
 ·have:i=zAk.length:=by omega
  rw [this] at hf
  rw [← hf]
  obtain ⟨x0,x1,x2,x3,rfl⟩:=zFE jo
  refine zAe 2 (zAd (zAJ (E_a [] an (PV.agg [I x0,I x1,I x2,I x3]) ([]) rfl rfl)))
end
end Go.Eng
namespace Go.Eng
open Go
def ltL:List Int→List Int→Bool
 | [],[]=>false
 | [],_::_=>true
 | _::_,[]=>false
 | x::xs,y::ys=>decide (x<y)||decide (x=y)&&ltL xs ys
def zVX (w:List Int→Int) (m l:List Int):Prop:=w l<w m∨w l=w m∧(m.length<l.length∨m.length=l.length∧ltL m l=true)
structure BestOf (w:List Int→Int) (L:List (List Int)) (m:List Int×Int):Prop where
 mem:m.1∈L
 val:m.2=w m.1
 all:∀ l∈L,l=m.1∨zVX w m.1 l
end Go.Eng
