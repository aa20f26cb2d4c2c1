/- Just those ye are left with an earlier notice alone that are told; who jN a notice has it by a path; and with the further cries that are told nobody is left, or gaps are told that no cry mends; for every list of numbers, evening and stands. -/
import Derived.Calls
import Derived.Below
import Derived.CallsIn
import Derived.Laws.StructEq
import Derived.Laws.Cover3
import Derived.Laws.Slices
import Derived.Laws.MakeOwn
import Derived.Laws.CopyRow
set_option linter.unusedVariables false
set_option linter.unusedSimpArgs false
set_option linter.unusedSectionVars false
namespace Go
abbrev LP:=List (Int×Int)
abbrev LN:=List Nat
abbrev LI:=List Int
abbrev ON:=Option Nat
abbrev d0{α:Type}[Inhabited α]:α:=default
abbrev ba:=@Option.some.injEq
abbrev bb:=@Bool.and_eq_true
abbrev bc:=@Nat.eq_of_beq_eq_true
abbrev bd:=@Option.bind_some
abbrev be:=@List.length_map
abbrev bf:=@List.getElem?_eq_some_iff
abbrev bg:=@List.mem_append
abbrev bh:=@Result.andThen_ok
abbrev bi:=@Nat.le_refl
abbrev bj:=@List.all_eq_true
abbrev bk:=@List.getElem?_eq_getElem
abbrev bl:=@List.mem_singleton
abbrev bm:=@Option.map_eq_some_iff
abbrev bn:=@List.mem_append_right
abbrev bo:=@Sem.run_bind
abbrev bp:=@Bool.false_eq_true
abbrev bq:=@List.eq_nil_of_length_eq_zero
abbrev br:=@Nat.le_of_ble_eq_true
abbrev bt:=@List.mem_append_left
abbrev bu:=@Option.map_some
abbrev bv:=@List.mem_cons
abbrev bw:=@Prod.mk.injEq
abbrev bx:=@Sem.run_pure
abbrev bz:=@List.take_of_length_le
abbrev bA:=@List.length_append
abbrev bB:=@Bool.not_eq_false'
abbrev bC:=@List.mem_range
abbrev bD:=@Bool.not_eq_true'
abbrev bE:=@Nat.lt_succ_iff_lt_or_eq
abbrev bF:=@Nat.le_trans
abbrev bG:=@List.mem_of_getElem?
abbrev bH:=@Nat.lt_of_lt_of_le
abbrev bI:=@List.nodup_append
abbrev bJ:=@List.getElem?_cons_zero
abbrev bK:=@List.getD_eq_getElem?_getD
abbrev bL:=@Nat.add_zero
abbrev bM:=@List.map_cons
abbrev bN:=@List.any_eq_true
abbrev bO:=@Array.getElem?_toList
abbrev bP:=@List.mem_filter
abbrev bQ:=@Int.toNat_natCast
abbrev bR:=@Nat.zero_le
abbrev bS:=@Array.getElem?_eq_some_iff
abbrev bT:=@List.mem_map
abbrev bU:=@List.length_filter_le
abbrev bV:=@Bool.or_eq_true
abbrev bW:=@List.length_singleton
abbrev bX:=@List.drop_eq_getElem_cons
abbrev bY:=@List.length_take
abbrev bZ:=@List.foldl_cons
abbrev b4:=@List.nodup_nil
abbrev b6:=@List.eq_of_mem_replicate
abbrev b7:=@Nat.add_assoc
abbrev b8:=@Nat.not_lt_zero
abbrev b9:=@List.length_cons
abbrev ce:=@List.getElem?_map
abbrev cf:=@List.getElem?_drop
abbrev cg:=@List.set_eq_take_append_cons_drop
abbrev ci:=@List.getElem?_set_self
abbrev cj:=@List.getElem?_of_mem
abbrev ck:=@List.getElem?_take
abbrev cm:=@List.take_append_drop
abbrev cn:=@List.getElem?_append_left
abbrev co:=@Bool.false_or
abbrev cq:=@List.mem_of_mem_drop
abbrev cu:=@Bool.not_eq_true
abbrev cv:=@List.nodup_cons
abbrev cw:=@List.range_succ
abbrev cx:=@List.append_assoc
abbrev cy:=@List.set_cons_zero
abbrev cz:=@Nat.beq_refl
abbrev cA:=@Classical.byContradiction
abbrev cB:=@List.map_append
abbrev cC:=@List.getElem_mem
abbrev cD:=@Bool.or_eq_false_iff
abbrev cE:=@List.mem_of_mem_take
abbrev cF:=@List.take_length
abbrev cG:=@List.filter_cons_of_neg
abbrev cH:=@List.foldl_append
abbrev cI:=@List.take_append_of_le_length
abbrev cJ:=@Decidable.of_not_not
abbrev cK:=@Nat.add_mul
abbrev cL:=@List.pairwise_cons
abbrev cM:=@List.foldl_nil
abbrev cN:=@List.length_nil
abbrev cO:=@List.all_cons
abbrev cP:=@Nat.ble_eq_true_of_le
abbrev cQ:=@List.getElem?_append_right
abbrev cR:=@Bool.true_and
abbrev cS:=@Nat.mul_le_mul_right
abbrev cT:=@List.mem_flatMap
abbrev cU:=@Array.getElem?_eq_getElem
abbrev cV:=@List.any_eq_false
abbrev cW:=@Nat.succ_mul
abbrev cX:=@Bool.false_and
abbrev cY:=@List.nil_append
abbrev cZ:=@Bool.eq_iff_iff
abbrev da:=@Array.getD_eq_getD_getElem?
abbrev db:=@List.filter_append
abbrev dc:=@List.not_any_eq_all_not
abbrev dd:=@List.getElem?_set_ne
abbrev de:=@Option.getD_some
abbrev dg:=@List.mem_cons_of_mem
abbrev dh:=@Nat.zero_add
abbrev di:=@MapKept.run_getObj_map
abbrev dj:=@Int.le_refl
abbrev dk:=@List.ext_getElem?
abbrev dl:=@Value.slice.injEq
abbrev dm:=@List.mem_or_eq_of_mem_set
abbrev dn:=@List.append_nil
abbrev dp:=@List.getElem?_eq_none
abbrev dq:=@List.contains_iff_mem
abbrev dt:=@Nat.sub_zero
abbrev du:=@List.not_mem_nil
abbrev dv:=@List.getElem_of_mem
abbrev dw:=@List.append_eq_nil_iff
abbrev dx:=@List.drop_eq_nil_of_le
abbrev dy:=@Bool.not_true
abbrev dz:=@List.getElem_map
abbrev dA:=@Ne.symm
abbrev dB:=@List.drop_drop
abbrev dC:=@Array.getElem?_modify
abbrev dD:=@Option.isNone_iff_eq_none
abbrev dE:=@Option.isSome_iff_exists
abbrev dF:=@List.pairwise_append
abbrev dG:=@Iff.rfl
abbrev dH:=@Bool.and_self
abbrev dI:=@Nat.add_sub_cancel_left
abbrev dJ:=@List.map_congr_left
abbrev dK:=@Int.toNat_of_nonneg
abbrev dM:=@Option.bind_none
abbrev dN:=@Array.getElem?_setIfInBounds
abbrev dO:=@Bool.and_false
abbrev dP:=@List.take_zero
abbrev dQ:=@MapKept.run_setObj_map
abbrev dR:=@Option.isSome_none
abbrev dS:=@List.getElem_range
abbrev dT:=@List.mem_cons_self
abbrev dU:=@Classical.choose_spec
abbrev dV:=@List.getElem?_set
abbrev dW:=@List.findIdx?_eq_none_iff
abbrev dX:=@List.findIdx?_eq_some_iff_getElem
abbrev dY:=@List.drop_zero
abbrev dZ:=@Nat.zero_mul
abbrev d4:=@List.map_nil
abbrev d5:=@Nat.le_of_not_lt
abbrev d6:=@List.isEmpty_iff
abbrev d7:=@List.length_drop
abbrev d8:=@List.take_succ_cons
abbrev d9:=@Array.getElem?_push
abbrev fa:=@List.getD_cons_zero
abbrev fb:=@List.getElem?_cons_succ
abbrev fc:=@List.filter_cons_of_pos
abbrev fd:=@List.map_take
abbrev fe:=@List.map_drop
abbrev ff:=@List.cons.injEq
abbrev fg:=@List.eq_nil_iff_forall_not_mem
abbrev fh:=@Array.getElem?_eq_none
abbrev fi:=@Nat.mul_one
abbrev fj:=@List.flatMap_cons
abbrev fk:=@Decidable.not_not
abbrev fm:=@List.length_range
abbrev fo:=@List.take_add_one
abbrev fp:=@List.filter_cons
abbrev fq:=@List.range'_succ
abbrev fu:=@List.map_toArray
abbrev fv:=@Eq.trans
abbrev fw:=@List.findIdx_getElem
abbrev fx:=@List.isPrefixOf_iff_prefix
abbrev fy:=@List.length_eraseIdx_of_lt
abbrev fA:=@Std.Legacy.Range.forIn_eq_forIn_range'
abbrev fB:=@List.getElem?_zip_eq_some
abbrev fC:=@List.pairwise_iff_getElem
abbrev fD:=@Nat.add_sub_cancel
abbrev fE:=@Array.ext_getElem?
abbrev fF:=@List.take_take
abbrev fG:=@Nat.ble_eq
abbrev fH:=@List.all_eq_false
abbrev fI:=@List.drop_of_length_le
abbrev fJ:=@List.getElem_replicate
abbrev fK:=@Nat.lt_irrefl
abbrev fL:=@List.any_cons
abbrev fM:=@List.drop_append
abbrev fN:=@List.zipIdx_cons
abbrev fO:=@List.prefix_refl
abbrev fP:=@Bool.and_eq_false_iff
abbrev fQ:=@List.length_replicate
abbrev fR:=@List.set_append_right
abbrev fS:=@List.length_set
abbrev fT:=@List.map_map
abbrev fU:=@Nat.min_eq_left
abbrev fV:=@Option.map_none
abbrev fW:=@List.filter_nil
abbrev fX:=@Nat.sub_self
abbrev fY:=@Int.max_eq_left
abbrev fZ:=@List.replicate_succ
abbrev f0:=@Array.length_toList
abbrev f5:=@List.flatMap_append
abbrev f6:=@List.filter_eq_self
abbrev f7:=@List.drop_left
abbrev f8:=@Bool.not_false
abbrev f9:=@Nat.mul_le_mul
abbrev ia:=@Option.isSome_some
abbrev ib:=@List.findIdx?_cons
abbrev ie:=@Bool.or_false
abbrev ig:=@Bool.and_true
abbrev ii:=@List.filter_congr
abbrev ij:=@List.getElem_take
abbrev il:=@Array.mapM_eq_mapM_toList
abbrev im:=@List.rel_of_pairwise_cons
abbrev io:=@List.mem_take_iff_getElem
abbrev ip:=@List.take_append
abbrev iq:=@Array.size_setIfInBounds
abbrev ir:=@Array.toList_map
abbrev iu:=@List.ext_getElem
abbrev iv:=@Array.getElem?_replicate
abbrev iw:=@List.map_set
abbrev iy:=@Nat.min_self
abbrev iz:=@Int.max_eq_right
abbrev iA:=@List.append_cancel_left
abbrev iB:=@Option.bind_eq_some_iff
abbrev iC:=@List.getElem?_replicate
abbrev iD:=@List.forIn_cons
abbrev iE:=@Int.le_antisymm
abbrev iF:=@Sem.run_ite
abbrev iG:=@Nat.ne_of_beq_eq_false
abbrev iH:=@List.length_eq_one_iff
abbrev iI:=@List.findIdx_lt_length
abbrev iJ:=@List.length_pos_of_mem
abbrev iK:=@List.filter_eq_nil_iff
abbrev iL:=@List.mapM_cons
abbrev iM:=@Nat.add_comm
end Go
open Nat (beq ble blt)
open List (map replicate take drop range length filter)
namespace Go.Eng
open Go
theorem zzLn{α:Type}:(∀ (l:List α) (i:Nat) (a:α),(l.set i a).length=l.length) /\ (∀ a b:List α,(a++b).length=a.length+b.length) /\ (∀ (a:α) (l:List α),(a::l).length=l.length+1) /\ ([]:List α).length=0:=⟨fun _ _ _=>fS,fun _ _=>bA,fun _ _=>rfl,rfl⟩
inductive PV where
 |bad|und
 |int (k:IntKind) (n:Int)|bool (b:Bool)
 |nilp|nilf|nilm|nn|nils (sz:Nat)
 |agg (cs:List PV)|tup (vs:List PV)
 |sl (xs:List PV)|own (sz:Nat) (xs:List PV)
 |ref (p:PV)|box (p:PV)
 |map (es:List (PV×PV))|omap (es:List (PV×PV))
 |func (f:FuncId) (first caps:List PV)
 |addr (r:Nat) (pre:List (Nat×Nat)) (i c:Nat) (sh:ON)
 |bor (r:Nat) (pre:List (Nat×Nat)) (sz lo n:Nat)
 |bsl (r:Nat) (pre:List (Nat×Nat)) (i c:Nat) (sz:Nat) (ag:Bool) (n:Nat)
 |bmap (r:Nat) (pre:List (Nat×Nat))
 |lock (p:PV)
 |yld (h:Nat)|log (xs:List PV) (k:Int)
 deriving Inhabited
abbrev zA4:=List (Nat×Nat)
def zAk:Nat:=50000000
def zAI:Nat:=60000000
def zAa:Nat:=1000000000
def depth:Nat:=6
abbrev Env:=List (Nat×PV)
def Env.get:Env->Nat->PV
 |[],_=>.bad|(k,v)::e,s=>bif beq k s then v else Env.get e s
def Env.set:Env->Nat->PV->Env
 |[],s,p=>[(s,p)]|(k,v)::e,s,p=>bif beq k s then(s,p)::e else bif ble s k then(s,p)::(k,v)::e else(k,v)::Env.set e s p
def PV.cells:PV->List PV
 |.agg cs=>cs|p=>[p]
def zOT:ON->List PV->PV
 |some _,cs=>.agg cs|none,c::_=>c|none,[]=>.bad
def PV.isAgg:PV->Bool
 |.agg _=>true|_=>false
def PV.oneCell:PV->Bool
 |.int ..|.bool _|.nilp|.nilf|.nilm|.nn|.nils _|.sl _|.own ..|.ref _|.box _|.map _|.omap _|.func ..|.addr ..|.bor ..|.bsl ..|.bmap .. => true|_=>false
def PV.whole(p:PV):Bool:=p.isAgg||p.oneCell
def PV.isTup:PV->Bool
 |.tup _=>true|_=>false
def PV.heavy0:PV->Bool
 |.own ..|.box ..|.omap .. => true|_=>false
mutual
def PV.heavy:PV->Bool
 |.own .. => true|.box _=>true|.omap _=>true|.lock _=>true|.agg cs=>zDj cs|.tup vs=>zDj vs|_=>false
def zDj:List PV->Bool
 |[]=>false|p::ps=>p.heavy||zDj ps
end
def zHh(r:Nat)(pre:zA4):PV->PV
 |.agg _|.tup _|.lock _=>.bad|.own sz xs=>.bor r pre sz 0 xs.length|.box p=>.addr r pre 0 0 (match p with|.agg cs=>some cs.length|_=>none)
 |.omap _=>.bmap r pre|p=>p
def zBR(r:Nat)(pre:zA4)(i:Nat):Nat->List PV->List PV
 |_,[]=>[]|c,p::ps=>zHh r (pre++[(i,c)]) p::zBR r pre i (c+1) ps
def zVa(r:Nat):PV->PV
 |.agg cs=>.agg (zBR r [] 0 0 cs)|.tup _=>.bad|p=>zHh r [] p
def view(r:Nat):PV->PV
 |.lock p=>zVa r p|p=>zVa r p
def PV.unlock:PV->PV
 |.lock p=>p|p=>p
def zZe:PV->Option (List PV)
 |.own _ xs=>some xs|.sl xs=>some xs|.box p=>some [p]|.ref p=>some [p]|.agg cs=>some [.agg cs]|_=>none
def zBm:PV->Option (List PV)
 |.own _ xs=>some xs|.box p=>some [p]|_=>none
def zAK:PV->List PV->Option PV
 |.own sz _,xs=>some (.own sz xs)|.box _,[p]=>some (.box p)|.agg _,[.agg cs]=>some (.agg cs)|_,_=>none
def zA9:PV->Option (List PV)
 |.own _ xs=>some xs|.box p=>some [p]|.agg cs=>some [.agg cs]|_=>none
def zAF:PV->Nat->List PV->PV
 |.agg cs,c,qs=>.agg (cs.take c++qs++cs.drop (c+qs.length))|_,_,q::_=>q|p,_,[]=>p
def zAC:PV->zA4->Option PV
 |p,[]=>some p
 | p,(i,c)::rest =>
  match zA9 p with
  | some xs=>match xs[i]? with
   |some x=>match x.cells[c]? with
    |some q=>zAC q rest|none=>none
   |none=>none
  |none=>none
def zAz (f:PV->Option PV):PV->zA4->Option PV
 |p,[]=>f p
 | p,(i,c)::rest =>
  match zA9 p with
  | some xs=>match xs[i]? with
   | some x=>match x.cells[c]? with
    |some q=>match zAz f q rest with
     |some q'=>zAK p (xs.set i (zAF x c [q']))|none=>none
    |none=>none
   |none=>none
  |none=>none
mutual
def zA2:PV->PV
 |.own _ xs=>.sl (zAt xs)|.box q=>.ref (zA2 q)|.omap es=>.map es|.agg cs=>.agg (zAt cs)|.tup _=>.bad|.lock _=>.bad|p=>p
def zAt:List PV->List PV
 |[]=>[]|p::ps=>zA2 p::zAt ps
end
mutual
def PV.free:PV->Bool
 |.int ..|.bool ..|.nilp|.nilf|.nilm|.nn|.nils _|.und=>true|.sl []=>true|.agg cs=>zEy cs|.tup vs=>zEy vs|.own _ xs=>zEy xs|.box q=>q.free|.omap es=>zO2 es|_=>false
def zEy:List PV->Bool
 |[]=>true|p::ps=>p.free&&zEy ps
def zO2:List (PV×PV)->Bool
 |[]=>true|(k,v)::es=>k.free&&v.free&&zO2 es
end
inductive PM where
 |ok|fail
 |view (s:Nat) (k:PV->PM)
 |get (s:Nat) (k:PV->PM)
 |set (s:Nat) (p:PV) (k:PM)
 |cells (r:Nat) (pre:zA4) (i c n:Nat) (k:Bool->List PV->PM)
 |deep (r:Nat) (pre:zA4) (k:PV->PM)
 |wcells (r:Nat) (pre:zA4) (i c:Nat) (qs:List PV) (k:PM)
 |wnode (r:Nat) (pre:zA4) (q:PV) (k:PM)
 |kill (r:Nat) (pre:zA4) (k:PM)
 |frz (r:Nat) (pre:zA4) (k:PM)
 |killEx (r:Nat) (keep:List zA4) (k:PM)
 |forget (h:Nat) (k:PM)
 |call (f:FuncId) (args hid:List PV) (k:PV->List PV->PM)
abbrev zAM:=FuncId->List PV->List PV->Option (PV×List PV)
mutual
def PV.mapW(f:PV->PV):PV->PV
 |.addr r pre i c sh=>f (.addr r pre i c sh)|.bor r pre z lo n=>f (.bor r pre z lo n)|.bsl r pre i c sz ag n=>f (.bsl r pre i c sz ag n)|.bmap r pre=>f (.bmap r pre)|.log xs k=>f (.log xs k)|.agg cs=>.agg (zCB f cs)|.tup cs=>.tup (zCB f cs)|.func g a b=>.func g (zCB f a) (zCB f b)|.ref q=>.ref (q.mapW f)|.box q=>.box (q.mapW f)|.lock q=>.lock (q.mapW f)|p=>p
def zCB(f:PV->PV):List PV->List PV
 |[]=>[]|p::ps=>p.mapW f::zCB f ps
end
mutual
def PV.ways:PV->List (Nat×zA4)
 |.addr r pre .. => [(r,pre)]|.bor r pre .. => [(r,pre)]|.bsl r pre .. => [(r,pre)]|.bmap r pre=>[(r,pre)]|.agg cs=>zBE cs|.tup cs=>zBE cs|.func _ a b=>zBE a++zBE b|.ref q=>q.ways|.box q=>q.ways|.lock q=>q.ways|_=>[]
def zBE:List PV->List (Nat×zA4)
 |[]=>[]|p::ps=>p.ways++zBE ps
end
def PV.plain0:PV->Bool
 |.int ..|.bool ..|.nilp|.nilf|.nilm|.nn|.nils _|.sl ..|.map .. => true|.ref q=>q.ways.isEmpty|_=>false
def PV.plain:PV->Bool
 |.agg cs=>cs.all PV.plain0|p=>p.plain0
def lose(r:Nat)(pre:zA4):PV->PV
 |.addr r' q i c sh=>bif beq r' r&&pre.isPrefixOf q then .bad else .addr r' q i c sh|.bor r' q z lo n=>bif beq r' r&&pre.isPrefixOf q then .bad else .bor r' q z lo n|.bsl r' q i c sz ag n=>bif beq r' r&&pre.isPrefixOf q then .bad else .bsl r' q i c sz ag n|.bmap r' q=>bif beq r' r&&pre.isPrefixOf q then .bad else .bmap r' q|p=>p
def zBY(r:Nat)(keep:List zA4):PV->PV
 |.addr r' q i c sh=>bif beq r' r && !(q.isEmpty||keep.any q.isPrefixOf) then .bad else .addr r' q i c sh|.bor r' q z lo n=>bif beq r' r && !(q.isEmpty||keep.any q.isPrefixOf) then .bad else .bor r' q z lo n|.bsl r' q i c sz ag n=>bif beq r' r && !(q.isEmpty||keep.any q.isPrefixOf) then .bad else .bsl r' q i c sz ag n|.bmap r' q=>bif beq r' r && !(q.isEmpty||keep.any q.isPrefixOf) then .bad else .bmap r' q|p=>p
def Env.killEx(e:Env)(r:Nat)(keep:List zA4):Env:=e.map fun x=>(x.1,x.2.mapW (zBY r keep))
def zAT(r:Nat)(pre:zA4)(r':Nat)(q:zA4):Bool:=beq r' r&&pre.isPrefixOf q
def zDO (i c:Nat) (sh:ON) (q:PV):PV :=
 match zBm q with
 | some xs=>match xs[i]? with
  | some x=>match sh with
   |some m=>bif ble (c+m) x.cells.length&&x.isAgg then .ref (.agg (zAt ((x.cells.drop c).take m))) else .bad|none=>match x.cells[c]? with
    |some q=>bif q.oneCell then .ref (zA2 q) else .bad|none=>.bad
  |none=>.bad
 |none=>.bad
def zCl(lo n:Nat):PV->PV
 |.own _ xs=>bif ble (lo+n) xs.length then .sl (zAt ((xs.drop lo).take n)) else .bad|_=>.bad
def zCz(ag:Bool)(sz:Nat):Nat->List PV->List PV
 |0,_=>[]|m+1,cs=>(bif ag then .agg (cs.take sz) else cs.headD .bad)::zCz ag sz m (cs.drop sz)
def zCA(ag:Bool)(sz m:Nat)(cs:List PV):Bool:=beq cs.length (m*sz)&&(ag||beq sz 1&&cs.all (fun q=>q.oneCell))
def zCH(i c sz:Nat)(ag:Bool)(m:Nat)(q:PV):PV :=
 match zBm q with
 |some xs=>match xs[i]? with
  |some x=>bif zCA ag sz m ((x.cells.drop c).take (m*sz))&&(zBE x.cells).isEmpty then .sl (zCz ag sz m (zAt ((x.cells.drop c).take (m*sz)))) else .bad|none=>.bad
 |none=>.bad
def zE7:PV->PV
 |.omap es=>.map es|_=>.bad
def zFH(q:Option PV)(f:PV->PV):PV :=
 match q with
 |some x=>f x|none=>.bad
def inl(r:Nat)(pre:zA4)(q0:PV):PV->PV
 |.addr r' q i c sh=>bif zAT r pre r' q then zFH (zAC q0 (q.drop pre.length)) (zDO i c sh) else .addr r' q i c sh|.bor r' q z lo n=>bif zAT r pre r' q then zFH (zAC q0 (q.drop pre.length)) (zCl lo n) else .bor r' q z lo n|.bsl r' q i c sz ag n=>bif zAT r pre r' q then zFH (zAC q0 (q.drop pre.length)) (zCH i c sz ag n) else .bsl r' q i c sz ag n|.bmap r' q=>bif zAT r pre r' q then zFH (zAC q0 (q.drop pre.length)) zE7 else .bmap r' q|p=>p
def PV.isLock:PV->Bool
 |.lock _=>true|_=>false
def Env.frz(e:Env)(r:Nat)(pre:zA4):Option Env :=
 bif (e.get r).isLock then none else match zAC (e.get r) pre with
 |some q=>match zAz (fun _=>some (zA2 q)) (e.get r) pre with
  |some root=>some ((e.set r root).map fun x=>(x.1,x.2.mapW (inl r pre q)))
  |none=>none
 |none=>none
def Env.kill(e:Env)(r:Nat)(pre:zA4):Env:=e.map fun x=>(x.1,x.2.mapW (lose r pre))
def PV.num:PV->Bool
 |.int .. => true|.bool _=>true|_=>false
def PV.isWay:PV->Bool
 |.addr ..|.bor ..|.bsl ..|.bmap ..|.log .. => true|_=>false
def Env.forget(e:Env)(h:Nat):Env:=e.map fun x=>bif beq x.1 h||x.2.num then x else(x.1,.bad)
def zAo(r:Nat)(root:PV)(pre:zA4)(i c n:Nat):Option (Bool×List PV) :=
 match zAC root.unlock pre with
 | some q=>match zBm q with
  |some xs=>match xs[i]? with
   |some x=>bif ble (c+n) x.cells.length then some (x.isAgg,zBR r pre i c ((x.cells.drop c).take n)) else none|none=>none
  |none=>none
 |none=>none
def zDR:PV->zA4->Bool
 |.own ..,_=>true|_,[]=>false
 | p,(i,c)::rest =>
  match zA9 p with
  | some xs=>match xs[i]? with
   |some x=>match x.cells[c]? with
    |some q=>zDR q rest|none=>false
   |none=>false
  |none=>false
def zBO(root:PV)(pre:zA4)(i c:Nat)(qs:List PV):Option PV :=
 bif zDR root pre && !(zBE qs).isEmpty then none else zAz (fun q=>match zBm q with
  |some xs=>match xs[i]? with
   |some x=>bif ble (c+qs.length) x.cells.length then zAK q (xs.set i (zAF x c qs)) else none|none=>none
  |none=>none) root pre
def PM.run(o:zAM):PM->Env->Option Env
 |.ok,e=>some e|.fail,_=>none|.view s k,e=>(k (Eng.view s (e.get s))).run o e|.get s k,e=>match e.get s with
  |.lock _=>none|p=>(k p).run o e
 |.set s p k,e=>k.run o (e.set s p)|.cells r pre i c n k,e=>match zAo r (e.get r) pre i c n with
  |some (a,qs)=>(k a qs).run o e|none=>none
 |.deep r pre k,e=>match zAC (e.get r).unlock pre with
  |some q=>(k q).run o e|none=>none
 |.wcells r pre i c qs k,e=>match zBO (e.get r) pre i c qs with
  |some root=>k.run o (e.set r root)|none=>none
 |.wnode r pre q k,e=>bif (e.get r).isLock then none else match zAz (fun _=>some q) (e.get r) pre with
  |some root=>k.run o (e.set r root)|none=>none
 |.kill r pre k,e=>k.run o (e.kill r pre)|.frz r pre k,e=>match e.frz r pre with
  |some e'=>k.run o e'|none=>none
 |.killEx r keep k,e=>k.run o (e.killEx r keep)|.forget h k,e=>k.run o (e.forget h)|.call f args hid k,e=>match o f args hid with
  |some (v,hO)=>(k v hO).run o e|none=>none
structure Tok where
 look:LN:=[]
 rd:LN:=[]
 cel:List (Nat×zA4):=[]
 wr:LN:=[]
 inn:List (Nat×zA4):=[]
 ways:List (Nat×zA4):=[]
 kills:LN:=[]
 killsIn:LN:=[]
 all:Bool:=false
 deriving Inhabited
def Tok.join(a b:Tok):Tok:=⟨a.look++b.look,a.rd++b.rd,a.cel++b.cel,a.wr++b.wr,a.inn++b.inn,a.ways++b.ways,a.kills++b.kills,a.killsIn++b.killsIn,a.all||b.all⟩
def zCo:PV->PV->Bool
 |.box p,.box q=>p.isAgg==q.isAgg&&beq p.cells.length q.cells.length|.own sz xs,.own sz' ys=>beq sz sz'&&beq xs.length ys.length|.omap _,.omap _=>true|_,_=>false
def zAH:PV->PV->zA4->Bool
 |.agg cs,.agg ds,(_,c)::_=>match cs[c]?,ds[c]? with
  |some p,some q=>zCo p q|_,_=>false
 |p,q,_=>zCo p q
def zRF(a b:LN):Bool:=a.any fun x=>b.any (beq x)
def zMR(l:List (Nat×zA4)):LN:=l.map (·.1)
def zQc(a b:Tok):Bool :=
 a.all||zRF a.wr b.look||zRF a.wr b.rd||zRF a.wr (zMR b.cel)||zRF a.wr b.wr||zRF a.wr (zMR b.inn)||zRF (zMR a.inn) b.rd||zRF (zMR a.inn) (zMR b.inn) ||
  a.inn.any (fun w=>b.cel.any fun c=>beq w.1 c.1&&w.2.isPrefixOf c.2)||zRF a.kills (zMR b.ways) ||
  zRF a.killsIn (zMR (b.ways.filter fun w=>!w.2.isEmpty))
def zRa(a b:Tok):Bool:=zQc a b||zQc b a
def zFI(s:Nat)(p q:PV):Tok:={wr:=[s],ways:=p.ways++q.ways}
def zAX(D:LN)(g g':Nat->PV)(ks ki:LN):Tok:={wr:=D,ways:=D.flatMap fun s=>(g s).ways++(g' s).ways,kills:=ks,killsIn:=ki}
def zDx(e:Env)(h:Nat×zA4->Bool):LN:=(e.filter fun x=>x.2.ways.any h).map (·.1)
def zBo(r:Nat)(w:zA4)(b:Bool)(p q:PV):Tok:={inn:=bif b then[(r,w)] else[],wr:=bif b then[] else[r],ways:=p.ways++q.ways}
def PM.runT(o:zAM):PM->Env->Option (Env×Tok)
 |.ok,e=>some (e,{})|.fail,_=>none|.view s k,e=>((k (Eng.view s (e.get s))).runT o e).map fun x=>(x.1,Tok.join {look:=[s]} x.2)
 |.get s k,e=>match e.get s with
  |.lock _=>none|p=>((k p).runT o e).map fun x=>(x.1,Tok.join {rd:=[s]} x.2)
 |.set s p k,e=>(k.runT o (e.set s p)).map fun x=>(x.1,Tok.join (zFI s (e.get s) p) x.2)
 |.cells r pre i c n k,e=>match zAo r (e.get r) pre i c n with
  |some (a,qs)=>((k a qs).runT o e).map fun x=>(x.1,Tok.join {cel:=[(r,pre)]} x.2)
  |none=>none
 |.deep r pre k,e=>match zAC (e.get r).unlock pre with
  |some q=>((k q).runT o e).map fun x=>(x.1,Tok.join {rd:=[r]} x.2)
  |none=>none
 |.wcells r pre i c qs k,e=>match zBO (e.get r) pre i c qs with
  |some root=>(k.runT o (e.set r root)).map fun x=>(x.1,Tok.join (zBo r [] (zAH (e.get r) root pre) (e.get r) root) x.2)
  |none=>none
 |.wnode r pre q k,e=>bif (e.get r).isLock then none else match zAz (fun _=>some q) (e.get r) pre with
  |some root=>(k.runT o (e.set r root)).map fun x=>(x.1,Tok.join (zBo r pre.dropLast (zAH (e.get r) root pre&&(pre.isEmpty || !q.isAgg)) (e.get r) root) x.2)
  |none=>none
 |.kill r pre k,e=>(k.runT o (e.kill r pre)).map fun x=>(x.1,Tok.join (zAX (zDx e fun z=>zAT r pre z.1 z.2) e.get (e.kill r pre).get [r] []) x.2)
 |.frz r pre k,e=>match e.frz r pre with
  |some e'=>(k.runT o e').map fun x=>(x.1,Tok.join (zAX (r::zDx e fun z=>zAT r pre z.1 z.2) e.get e'.get [r] []) x.2)
  |none=>none
 |.killEx r keep k,e=>(k.runT o (e.killEx r keep)).map fun x=>(x.1,Tok.join (zAX (zDx e fun z=>beq z.1 r && !z.2.isEmpty) e.get (e.killEx r keep).get [] [r]) x.2)
 |.forget h k,e=>(k.runT o (e.forget h)).map fun x=>(x.1,{all:=true})
 |.call f args hid k,e=>match o f args hid with
  |some (v,hO)=>(k v hO).runT o e|none=>none
variable (P:Program)
def szT(t:TypeId):ON:=(P.info? t).map (·.size)
def zIn(t:TypeId):ON:=(P.info? t).map (·.bytes)
def shT(t:TypeId):Option ON :=
 match P.underlying t,P.info? t with
 |some (.struct _),some i=>some (some i.size)|some (.array _ _),some i=>some (some i.size)|some _,some i=>if i.size=1 then some none else none
 |_,_=>none
def zB5(t:TypeId):Option TypeId :=
 match P.underlying t with
 |some (.slice e)=>some e|_=>none
def zeroCells:Nat->TypeId->Option (List PV)
 |0,_=>none|n+1,t=>match P.underlying t with
  |some (.int k)=>some [.int k 0]|some .bool=>some [.bool false]|some (.pointer _)=>some [.nilp]|some (.func ..)=>some [.nilf]|some (.map ..)=>some [.nilm]|some (.slice e)=>(szT P e).map fun s=>[.own s []]
  |some (.array m e)=>(zeroCells n e).map fun z=>(replicate m z).flatten
  |some (.struct fs)=>(fs.toList.mapM fun f=>zeroCells n f.type).map List.flatten
  |_=>none
def zKK:PV->Value->Bool
 |.int k n,.int k' m=>decide (k=k')&&decide (n=m)|.bool a,.bool b=>a==b|.nilp,.pointer none=>true|.nilf,.nilFunc=>true|.nilm,.map none=>true|.own _ [],.slice none 0 0=>true|_,_=>false
def zVr:List PV->List Value->Bool
 |[],[]=>true|p::ps,v::vs=>zKK p v&&zVr ps vs|_,_=>false
def zNx:PV->Value->Bool
 |.agg cs,.agg vs=>zVr cs vs.toList|.agg _,_=>false|p,v=>zKK p v
def zCS(t:TypeId):Option PV :=
 match zeroCells P 20 t,shT P t,(P.info? t).bind (·.zero) with
 |some cs,some sh,some v=>bif zNx (zOT sh cs) v then some (zOT sh cs) else none|_,_,_=>none
def zEQ:Value->PV
 |.int k n=>.int k n|.bool b=>.bool b|.slice none 0 0=>.nils 0|.pointer none=>.nilp|.nilFunc=>.nilf|.map none=>.nilm|.agg cs=>.agg (cs.toList.map fun|.int k n=>.int k n|.bool b=>.bool b|_=>.bad)
 |_=>.bad
def opd(x:Operand)(k:PV->PM):PM :=
 match x with
 |.tmp t=>.view t k|.const v=>k (zEQ v)|.func f=>k (.func f [] [])|.global _=>.fail
def zOh(x:Operand)(k:PV->PM):PM :=
 match x with
 |.tmp t=>.get t fun p=>if p.heavy then .set t .bad (k p) else k p
 |.const v=>k (zEQ v)|.func f=>k (.func f [] [])|.global _=>.fail
def zT9:List Operand->(List PV->PM)->PM
 |[],k=>k []|x::xs,k=>opd x fun p=>zT9 xs fun ps=>k (p::ps)
def zUt:List Operand->(List PV->PM)->PM
 |[],k=>k []|x::xs,k=>zOh x fun p=>zUt xs fun ps=>k (p::ps)
def lay(d:Nat)(p:PV)(k:PM):PM:=bif p.heavy then .kill d [] (.set d (p.mapW (lose d [])) k) else .set d p k
def put(d:ON)(p:PV):PM :=
 match d with
 |none=>.ok|some d=>bif p.isTup then .fail else lay d p .ok
def zBD(d i:Nat):Nat:=2000000+16*d+i
def zFe(d:Nat):Nat->List PV->PM->PM
 |n,[],k=>.set d (.tup (replicate n .bad)) k|i,p::ps,k=>lay (zBD d i) p (zFe d (i+1) ps k)
def zJO(d s:Nat):Bool:=ble (zBD d 0) s&&blt s (zBD d 16)
def zDB(d:ON)(v:PV):PM :=
 match d,v with
 |some d,.tup vs=>bif ble vs.length 16&&(zBE vs).all (fun w=>!zJO d w.1) then .set d .bad (zFe d 0 vs .ok) else .fail
 |d,v=>put d v
def zF7(s d:Nat):Nat->Nat->PM
 |n,0=>.set d (.tup (replicate n .bad)) .ok|i,n+1=>.get (zBD s i) fun p=>.set (zBD s i) .bad (lay (zBD d i) p (zF7 s d (i+1) n))
def zY5:PV->PV->Option Bool
 |.int k a,.int k' b=>if k=k' then some (a==b) else none
 |.bool a,.bool b=>some (a==b)|.nilp,.nilp=>some true|_,_=>none
def zFT:List PV->List PV->Option Bool
 |[],[]=>some true|p::ps,q::qs=>match zY5 p q,zFT ps qs with
  |some a,some b=>some (a&&b)|_,_=>none
 |_,_=>none
def zFt:PV->Bool
 |.sl (_::_)=>true|.nn=>true|.own _ (_::_)=>true|.bor _ _ _ _ (_+1)=>true|_=>false
def sub(p:PV)(off:Nat)(sh:ON):Option PV :=
 match p,sh with
 |.agg cs,some n=>if off+n<=cs.length then some (.agg ((cs.drop off).take n)) else none
 |.agg cs,none=>cs[off]?|_,_=>none
def zVD (eq:TypeId->PV->PV->Option Bool) (sh:TypeId->Option ON) (p q:PV):List Field->Option Bool
  |[]=>some true
  | f :: fs =>
    if f.name = "_" then zVD eq sh p q fs else
    match sh f.type with
    | some s=>match sub p f.offset s,sub q f.offset s with
      | some a,some b=>match eq f.type a b with
        |some true=>zVD eq sh p q fs|r=>r
      |_,_=>none
    |none=>none
def zV4(eq:PV->PV->Option Bool)(sh:ON)(sz:Nat)(p q:PV):Nat->Nat->Option Bool
 |_,0=>some true
 | i,n+1 =>
  match sub p (i*sz) sh,sub q (i*sz) sh with
  |some a,some b=>match eq a b with
   |some true=>zV4 eq sh sz p q (i+1) n|r=>r
  |_,_=>none
def eqT:Nat->TypeId->PV->PV->Option Bool
 |0,_,_,_=>none
 | n + 1,t,p,q =>
  match P.underlying t,p,q with
  |some (.int _),.int k a,.int k' b=>if k=k' then some (a==b) else none
  |some .bool,.bool a,.bool b=>some (a==b)|some (.pointer _),.nilp,.nilp=>some true|some (.struct fs),.agg xs,.agg ys=>bif P.stoodInHeld t then none else zVD (eqT n) (shT P) (.agg xs) (.agg ys) fs.toList|some (.array len e),.agg xs,.agg ys=>match szT P e,shT P e with
   |some sz,some sh=>zV4 (eqT n e) sh sz (.agg xs) (.agg ys) 0 len|_,_=>none
  |_,_,_=>none
def eqV(t:TypeId)(p q:PV):Option Bool :=
 match q with
 |.nils _=>match P.underlying t,p with
  |some (.slice _),.nils _=>some true|some (.slice _),p=>bif zFt p then some false else none|_,_=>none
 |.agg ys=>match p with
  |.agg xs=>bif P.eqGuardType P.depth t then none else eqT P 20 t (.agg xs) (.agg ys)|_=>none
 |q=>bif p.isAgg then none else eqT P 20 t p q
def zU1(op:BinOp)(k:IntKind)(a b:Int):Option PV :=
 match op with
 |.add=>some (.int k (k.wrap (a+b)))|.sub=>some (.int k (k.wrap (a-b)))|.mul=>some (.int k (k.wrap (a*b)))|.quo=>if b=0 then none else some (.int k (k.wrap (a.tdiv b)))
 |.rem=>if b=0 then none else some (.int k (a.tmod b))
 |.and=>some (.int k (k.wrap (BitVec.ofInt k.bits a &&& BitVec.ofInt k.bits b).toNat))|.or=>some (.int k (k.wrap (BitVec.ofInt k.bits a ||| BitVec.ofInt k.bits b).toNat))|.xor=>some (.int k (k.wrap (BitVec.ofInt k.bits a ^^^ BitVec.ofInt k.bits b).toNat))|.eql=>some (.bool (a==b))|.neq=>some (.bool (a != b))|.lss=>some (.bool (decide (a<b)))|.leq=>some (.bool (decide (a<=b)))|.gtr=>some (.bool (decide (a>b)))|.geq=>some (.bool (decide (a>=b)))|_=>none
def zHT(op:BinOp)(t:TypeId)(p q:PV):Option PV :=
 match op,p,q with
 |.shl,.int k a,.int _ b=>if b<0 then none else some (.int k (k.wrap (a*2 ^ (min b.toNat k.bits))))
 |.shr,.int k a,.int _ b=>if b<0 then none else some (.int k (a.fdiv (2 ^ (min b.toNat k.bits))))
 |op,.int k a,.int k' b=>if k=k' then zU1 op k a b else none
 |.eql,p,q=>(eqV P t p q).map .bool|.neq,p,q=>(eqV P t p q).map fun b=>.bool (!b)
 |_,_,_=>none
def lenOf:PV->ON
 |.nils _=>some 0|.nn=>some 0|.sl xs=>some xs.length|.bor _ _ _ _ n=>some n|.bsl _ _ _ _ _ _ n=>some n|_=>none
def zNF(r:Nat)(pre:zA4)(i c:Nat)(sh:ON)(k:PV->PM):PM :=
 match sh with
 |some n=>.cells r pre i c n fun a qs=>bif a then k (.agg qs) else .fail
 |none=>.cells r pre i c 1 fun _ qs=>k (qs.headD .bad)
def zD4(r:Nat)(pre:zA4)(i:Nat):Nat->List PV->PM->PM
 |_,[],k=>k|c,q::qs,k=>bif q.heavy then .kill r (pre++[(i,c)]) (zD4 r pre i (c+1) qs k) else zD4 r pre i (c+1) qs k
def zED(res:PV->(PV->List (Nat×zA4)->PM)->PM):List PV->(List PV->List (Nat×zA4)->PM)->PM
 |[],k=>k [] []|p::ps,k=>res p fun q l=>zED res ps fun qs m=>k (q::qs) (l++m)
def resolve (hb:Nat):Nat->PV->(PV->List (Nat×zA4)->PM)->PM
 |0,_,_=>.fail
 | n + 1,p,k =>
  match p with
  | .addr r pre i c sh=>bif ble hb r then k p [] else .deep r pre fun q=>match zBm q with
   | some xs=>match xs[i]? with
    | some x=>match sh with
     |some m=>bif ble (c+m) x.cells.length&&x.isAgg then resolve hb n (.agg ((x.cells.drop c).take m)) fun q l=>k (.ref q) ((r,pre)::l) else .fail
     |none=>match x.cells[c]? with
      |some q=>bif q.oneCell then resolve hb n q fun q l=>k (.ref q) ((r,pre)::l) else .fail
      |none=>.fail
    |none=>.fail
   |none=>.fail
  |.bor r pre _ lo m=>bif ble hb r then k p [] else .deep r pre fun q=>match q with
   |.own _ xs=>bif ble (lo+m) xs.length then k (.sl (zAt ((xs.drop lo).take m))) [(r,pre)] else .fail|_=>.fail
  | .bsl r pre i c sz ag m=>bif ble hb r then k p [] else .deep r pre fun q=>match zBm q with
   |some xs=>match xs[i]? with
    |some x=>bif zCA ag sz m ((x.cells.drop c).take (m*sz))&&(zBE x.cells).isEmpty then k (.sl (zCz ag sz m (zAt ((x.cells.drop c).take (m*sz))))) [(r,pre)] else .fail|none=>.fail
   |none=>.fail
  |.bmap r pre=>bif ble hb r then k p [] else .deep r pre fun q=>match q with
   |.omap es=>k (.map es) [(r,pre)]|_=>.fail
  |.agg cs=>bif (p.ways).isEmpty then k (zA2 p) [] else zED (resolve hb n) cs fun qs l=>k (.agg qs) l
  |.func f a b=>bif (p.ways).isEmpty then k p [] else zED (resolve hb n) a fun as l=>zED (resolve hb n) b fun bs m=>k (.func f as bs) (l++m)
  |.ref q=>bif (q.ways).isEmpty then k p [] else resolve hb n q fun q l=>k (.ref q) l
  |.bad=>k .bad []|p=>bif p.ways.all (fun w=>ble hb w.1) then k (zA2 p) [] else .fail
def zHM(p:PV)(k:List PV->PM):PM :=
 match p with
 |.nils _=>k []|.nn=>k []|.sl xs=>k xs|.bor r pre z lo n=>.deep r pre fun q=>match q with
  |.own _ xs=>bif ble (lo+n) xs.length then k ((xs.drop lo).take n) else .fail|_=>.fail
 |.bsl r pre i c sz ag n=>.cells r pre i c (n*sz) fun _ cs=>bif zCA ag sz n cs&&cs.all (fun q=>q.plain0) then k (zCz ag sz n cs) else .fail
 |_=>.fail
def zQW(p:PV)(k:PV->List (Nat×zA4)->PM):PM:=resolve zAa depth p k
def zLy(hb:Nat):Nat->PV->(PV->PM)->PM
 |0,_,_=>.fail|n+1,p,k=>match p.ways.find? (fun w=>blt w.1 hb) with
  |none=>k p|some (r,pre)=>.deep r pre fun q=>.frz r pre (zLy hb n (p.mapW (inl r pre q)) k)
def zDp:Nat:=64
end Go.Eng
namespace Go.Eng
open Go
structure FHint where
 drop:Nat->LN:=fun _=>[]
 loopDrop:Nat->LN:=fun _=>[]
 mode:LN:=[]
 frz:Bool:=false
 intr:Nat:=0
 take:Nat->LN:=fun _=>[]
 nils:Bool:=false
 frzs:Nat->LN:=fun _=>[]
 ices:Nat->LN:=fun _=>[]
abbrev zBh:=FuncId->FHint
instance:Inhabited FHint:=⟨{}⟩
def zEI(m:List (Nat×Nat)):PV->PV
 |.addr r pre i c sh=>match m.lookup r with
  |some h=>.addr h pre i c sh|none=>.bad
 |.bor r pre z lo n=>match m.lookup r with
  |some h=>.bor h pre z lo n|none=>.bad
 |.bsl r pre i c sz ag n=>match m.lookup r with
  |some h=>.bsl h pre i c sz ag n|none=>.bad
 |.bmap r pre=>match m.lookup r with
  |some h=>.bmap h pre|none=>.bad
 |p=>p
def zGZ(m:List (Nat×Nat))(p:PV):PV:=p.mapW (zEI m)
def zNX(p:PV):LN:=(p.ways).map (·.1)
structure Arg where
 p:PV
 shared:List (Nat×zA4):=[]
 byref:Bool:=false
def zEc:LN->List PV->(List (Bool×PV)->PM)->PM
 |_,[],k=>k []
 | ms,p::ps,k =>
  match ms.headD 0,p with
  |2,.bor r pre _ 0 n=>.deep r pre fun q=>match q with
   |.own sz xs=>bif ble n xs.length then .wnode r pre .bad (zEc ms.tail ps fun as=>k ((true,.own sz ((xs.drop 0).take n))::as)) else .fail
   |_=>.fail
  |_,p=>zEc ms.tail ps fun as=>k ((false,p)::as)
def zCE:LN->List (Bool×PV)->(List Arg->PM)->PM
 |_,[],k=>k []|ms,(true,p)::ps,k=>zCE ms.tail ps fun as=>k ({p:=p}::as)
 |ms,(false,p)::ps,k=>
  bif beq (ms.headD 0) 1 then zCE ms.tail ps fun as=>k ({p:=p,byref:=true}::as)
  else zQW p fun q l=>zCE ms.tail ps fun as=>k ({p:=q,shared:=l}::as)
def zEr:LN->List (Bool×PV)->(List Arg->PM)->PM
 |_,[],k=>k []|ms,(true,p)::ps,k=>zEr ms.tail ps fun as=>k ({p:=p}::as)
 |ms,(false,p)::ps,k=>
  bif beq (ms.headD 0) 1 then zEr ms.tail ps fun as=>k ({p:=p,byref:=true}::as)
  else zLy zAa zDp p fun q=>zEr ms.tail ps fun as=>k ({p:=q}::as)
def zOn:LN->(List PV->PM)->PM
 |[],k=>k []|r::rs,k=>.get r fun p=>zOn rs fun ps=>k (p::ps)
def zGR(old new:PV):Bool :=
 match new,old with
 |.own sz _,.own sz' _=>beq sz sz'|.own ..,_=>false|.box _,.box _=>true|.box _,_=>false|.omap _,.omap _=>true|.omap _,_=>false|.lock _,_=>false|.tup _,_=>false|_,_=>true
def zOH:LN->List PV->List PV->PM->PM
 |r::rs,o::os,p::ps,k=>bif zGR o p then .wnode r [] p (zOH rs os ps k) else .fail|[],[],[],k=>k|_,_,_,_=>.fail
def zLs:Nat->LN->(LN->PM)->PM
 |0,R,k=>k R|n+1,R,k=>zOn R fun ts=>let R':=(R++ts.flatMap zNX).eraseDups;bif beq R'.length R.length then k R else zLs n R' k
def zLm:LN->PM->PM
 |[],k=>k|r::rs,k=>.killEx r [] (zLm rs k)
def zPL(as:List Arg):LN:=(as.flatMap fun a=>if a.byref then zNX a.p else[]).eraseDups
def zHe:LN->Bool
 |[]=>true|r::rs=>!rs.contains r&&zHe rs
variable (P:Program) (H:zBh)
def zDL(R:LN):List (Nat×Nat):=R.zipIdx.map fun(r,j)=>(r,zAk+j)
def zCs(R:LN):List (Nat×Nat):=R.zipIdx.map fun(r,j)=>(zAk+j,r)
def zTi (d:ON) (f:FuncId) (as:List Arg) (again:PM):PM :=
 zLs 3 (zPL as) fun R=>
 bif zHe R&&R.all (fun r=>blt r zAa)&&ble R.length 1000&&ble as.length 1000&&(as.flatMap (·.shared)).all (fun x=>!R.contains x.1) then
  zOn R fun hid=>.call f (as.map fun a=>if a.byref then zGZ (zDL R) a.p else a.p) (hid.map (zGZ (zDL R))) fun v hO=>
   bif (as.flatMap (·.shared)).isEmpty||v.free&&zEy hO then
    zLm R<|zOH R hid (hO.map (zGZ (zCs R))) (zDB d (zGZ (zCs R) v))
   else again
 else .fail
def zOK(d:ON)(f:FuncId)(args:List PV):PM :=
 zEc (H f).mode args fun bs=>zCE (H f).mode bs fun as=>zTi d f as (zEr (H f).mode bs fun as=>zTi d f as .fail)
def zYE:List PV->Option PV
 |.int k a::r=>(r.foldl (fun m p=>match m,p with
  |some m,.int k' b=>if k=k' then some (if b>m then b else m) else none
  |_,_=>none) (some a)).map (.int k)
 |_=>none
def zYm:List PV->Option PV
 |.int k a::r=>(r.foldl (fun m p=>match m,p with
  |some m,.int k' b=>if k=k' then some (if b<m then b else m) else none
  |_,_=>none) (some a)).map (.int k)
 |_=>none
def zJa{α:Type}(x:Option α)(k:α->PM):PM :=
 match x with
 |some a=>k a|none=>.fail
def zVP:PV->(Bool->PM)->PM
 |.bool b,k=>k b|_,_=>.fail
def zGN:PV->(Nat->PM)->PM
 |.int _ n,k=>if 0<=n then k n.toNat else .fail
 |_,_=>.fail
def zAJ:Nat:=4294967296
def zGL(r:Nat)(pre:zA4):Nat->List PV->PM->PM
 |_,[],k=>k|i,y::ys,k=>zD4 r pre i 0 y.cells (.wcells r pre i 0 y.cells (zGL r pre (i+1) ys k))
def zLR(d:ON)(r:Nat)(pre:zA4)(z lo n s:Nat)(xs ys:List PV):PM :=
 bif blt 0 z&&beq z s&&ble (lo+n+ys.length) xs.length&&ys.all (fun y=>y.plain) then zGL r pre (lo+n) ys (put d (.bor r pre z lo (n+ys.length))) else .fail
def zL4 (d:ON) (sz:Nat) (base:PV) (ys:List PV):PM :=
 bif ys.all (fun y=>beq y.cells.length sz&&y.cells.all fun q=>q.oneCell)&&(zBE ys).isEmpty then
 match base with
 | .bor r pre z lo n => .deep r pre fun q=>match q with
  | .own s xs =>
   bif beq s sz&&ble (lo+n) xs.length&&ble (xs.length+ys.length) zAJ then
    bif beq (lo+n) xs.length then
     bif beq lo 0 then .wnode r pre .bad (put d (.own sz (xs++ys))) else .fail
    else zLR d r pre z lo n s xs ys
   else .fail
  |_=>.fail
 |.nils _=>bif ble ys.length zAJ then put d (.own sz ys) else .fail|_=>.fail
 else .fail
def zOp(x:Operand)(k:List PV->PM):PM :=
 match x with
 |.tmp t=>.get t fun p=>match p with
  |.own _ xs=>.set t .bad (k xs)|_=>.view t fun p=>zHM p fun xs=>if xs.all (fun x=>x.plain) then k xs else .fail
 |x=>opd x fun p=>zHM p fun xs=>if xs.all (fun x=>x.plain) then k xs else .fail
def zSm(d:ON)(z:Option PV×ON)(p:PV):PM :=
 match p,d,z.1,z.2 with
 |.bor r pre z lo n,none,some q,some s=>bif blt 0 z&&beq z s&&beq q.cells.length s&&q.plain then zGL r pre lo (replicate n q) .ok else .fail|.sl [],none,some _,some _=>.ok|.nils _,none,some _,some _=>.ok|_,_,_,_=>.fail
def zBB(d:ON)(b:Builtin)(ts:List TypeId)(args:List Operand):PM :=
 match b,args,ts with
 | .len,[x],t::_=>opd x fun p=>match P.underlying t with
  |some (.array n _)=>put d (.int .i64 n)|some (.slice _)=>match lenOf p with
   |some n=>put d (.int .i64 n)|none=>.fail
  |_=>.fail
 |.append,[x,y],[t,t2]=>bif (zB5 P t2).isNone then .fail else match(zB5 P t).bind (szT P),(zB5 P t).bind (zIn P),(zB5 P t).bind (zCS P) with
  |some sz,some by_,some z=>if by_<=16384/\z.cells.length=sz then opd x fun base=>zOp y fun ys=>zL4 d sz base ys else .fail
  |_,_,_=>.fail
 |.copy,[x,y],t::_=>zJa ((zB5 P t).bind (szT P)) fun s=>opd x fun p=>opd y fun q=>zHM q fun ys=>match p with
  |.bor r pre z lo n=>bif beq z s&&blt 0 z&&ble ys.length n&&ys.all (fun y=>y.plain&&beq y.cells.length s) then zGL r pre lo ys (put d (.int .i64 ys.length)) else .fail
  |_=>.fail
 |.clear,[x],t::_=>opd x fun p=>zSm d ((zB5 P t).bind (zCS P),(zB5 P t).bind (szT P)) p
 |.max,xs,_=>zT9 xs fun ps=>match zYE ps with
  |some v=>put d v|none=>.fail
 |.min,xs,_=>zT9 xs fun ps=>match zYm ps with
  |some v=>put d v|none=>.fail
 |_,_,_=>.fail
def zGf(place:Nat->Option (Nat×Nat)):List PV->List (Nat×PV)->Option (List PV)
 |z,[]=>some z|z,(i,v)::r=>match place i with
  |some (off,n)=>if v.cells.length=n/\off+n<=z.length/\v.whole=true then zGf place (z.take off++v.cells++z.drop (off+n)) r else none
  |none=>none
def zOZ(place:Nat->Option (Nat×Nat))(z:List PV)(ps:List (Nat×Operand))(k:List PV->PM):PM :=
 zUt (ps.map (·.2)) fun vs=>match zGf place z ((ps.map (·.1)).zip vs) with
  |some cs=>k cs|none=>.fail
def zM1(n:Nat)(z:PV)(ps:List (Nat×PV)):List PV :=
 ps.foldl (fun xs (i,v)=>xs.set i v) (replicate n z)
def zMe(t:TypeId)(i:Nat):Option Field :=
 match P.underlying t with
 |some (.struct fs)=>fs[i]?|_=>none
def zPh(p:PV)(off:Nat)(sh:ON):Option PV :=
 match p with
 |.ref q=>match sub q off sh with
  |some x=>bif sh.isSome||x.oneCell then some (.ref x) else none
  |none=>none
 |.addr r pre i c (some _)=>some (.addr r pre i (c+off) sh)|_=>none
def zBT(p:PV)(off:Nat)(sh:ON):Option PV :=
 match sh with
 |some 0=>none|sh=>zPh p off sh
def zT8(x:Option Operand)(n:Nat)(k:Nat->PM):PM :=
 match x with
 |some x=>opd x fun p=>zGN p k
 |none=>k n
def zO1 (d:ON) (s:Nat) (p:PV) (l h:Nat):PM :=
 match p with
 |.sl xs=>bif ble l h&&ble h xs.length&&xs.all (fun x=>beq x.cells.length s) then put d (.sl ((xs.drop l).take (h-l))) else .fail
 | .bor r pre z a n =>
  bif beq z s&&ble l h then
   bif ble h n then put d (bif beq l 0||blt l h then .bor r pre z (a+l) (h-l) else .sl [])
   else .deep r pre fun q=>match q with
    |.own _ xs=>bif ble (a+h) xs.length then put d (bif beq l 0||blt l h then .bor r pre z (a+l) (h-l) else .sl []) else .fail|_=>.fail
  else .fail
 |_=>.fail
def zTl(d:ON)(n s:Nat)(sh:ON)(p:PV)(l h:Nat):PM :=
 bif ble l h&&ble h n&&(beq l 0||blt l n) then
  match p with
  |.addr r pre i c _=>put d (.bsl r pre i (c+l*s) s sh.isSome (h-l))|.ref (.agg cs)=>bif ble (n*s) cs.length&&zCA sh.isSome s (h-l) ((cs.drop (l*s)).take ((h-l)*s))&&(zBE cs).isEmpty then put d (.sl (zCz sh.isSome s (h-l) ((cs.drop (l*s)).take ((h-l)*s)))) else .fail|_=>.fail
 else .fail
def zJj(d:ON)(t:TypeId)(x:Operand)(lo hi mx:Option Operand):PM :=
 match mx with
 | some m=>opd x fun p=>match p,P.underlying t with
  |.bor _ _ _ _ n,some (.slice e)=>zJa (szT P e) fun _=>zT8 (some m) n fun m=>match hi with
   |some hi=>zT8 (some hi) n fun h=>zT8 lo 0 fun l=>bif ble l h&&ble h m&&ble m n then put d .bad else .fail
   |none=>.fail
  |_,_=>.fail
 | none=>opd x fun p=>match P.underlying t with
  |some (.array n e)=>match szT P e,shT P e with
   |some s,some sh=>zT8 hi n fun h=>zT8 lo 0 fun l=>zTl d n s sh p l h
   |_,_=>.fail
  |some (.slice e)=>match szT P e,lenOf p with
   |some s,some n=>zT8 hi n fun h=>zT8 lo 0 fun l=>zO1 d s p l h
   |_,_=>.fail
  |_=>.fail
def zN0(p:PV)(k:PV->PM)(k2:PM):PM :=
 match p with
 |.bor r pre _ lo n=>.deep r pre fun q=>match q with
  |.own sz xs=>bif beq lo 0&&beq n xs.length then .wnode r pre .bad (k (.own sz xs)) else k2|_=>k2
 |.bmap r pre=>.deep r pre fun q=>match q with
  |.omap es=>.wnode r pre .bad (k (.omap es))|_=>k2
 |p=>k p
def zM6(p:PV)(k:PV->PM):PM:=zN0 p k (zLy zAa zDp p k)
def zJs:List PV->(List PV->PM)->PM
 |[],k=>k []|p::ps,k=>zN0 p (fun q=>zJs ps fun qs=>k (q::qs)) .fail
def zF1(tk:Bool)(p:PV)(k:PV->PM):PM :=
 match p with
 |.agg cs=>bif tk then zJs cs fun cs=>k (.agg cs) else bif cs.any (fun c=>match c with|.bor ..|.bmap ..|.bsl .. => true|_=>false) then zLy zAa zDp p k else k p
 |.bsl .. => zLy zAa zDp p k|.bor ..|.bmap .. => bif tk then zM6 p k else zLy zAa zDp p k|p=>k p
def zGq(tk:Bool):List PV->(List PV->PM)->PM
 |[],k=>k []|p::ps,k=>zF1 tk p fun q=>zGq tk ps fun qs=>k (q::qs)
def zRE(r:Nat)(pre:zA4)(i c:Nat):PV->ON
 |.bor r' q z 0 n=>if r'=r&&q=pre++[(i,c)] then some n else none
 |_=>none
def zIs(r:Nat)(pre:zA4)(i c:Nat)(v:PV):PM :=
 bif (!v.heavy||v.ways.all (fun w=>!(zAT r pre w.1 w.2&&blt pre.length w.2.length)))&&v.cells.all (fun q=>q.oneCell) && !v.cells.isEmpty then zD4 r pre i c v.cells (.wcells r pre i c v.cells .ok) else .fail
def zIQ(tk:Bool)(r:Nat)(pre:zA4)(v:PV)(k:PV->PM):PM :=
 bif pre.isEmpty && !tk then .view r fun q=>(match q with|.addr .. => k v|_=>zF1 tk v k) else zF1 tk v k
def zIE(tk:Bool)(r:Nat)(pre:zA4)(i c:Nat)(v:PV):PM :=
 match zRE r pre i c v with
 |some m=>.deep r (pre++[(i,c)]) fun q=>match q with
  |.own s xs=>bif ble m xs.length then .wnode r (pre++[(i,c)]) .bad (zIs r pre i c (.own s ((xs.drop 0).take m))) else .fail|_=>.fail
 |none=>zIQ tk r pre v fun v=>zIs r pre i c v
def zO9(fz tk:Bool)(t:TypeId)(a x:Operand):PM :=
 opd a fun pa=>match pa,x with
 |.addr r pre i c _,.const (.slice none 0 0)=>zJa ((zB5 P t).bind (szT P)) fun s=>if szT P t=some 1 then zIE tk r pre i c (.own s []) else .fail
 |pa,x=>match pa,shT P t,szT P t with
 |.addr r pre i c _,some sh,some n=>(bif fz&&tk then opd x else zOh x) fun v=>
  bif beq v.cells.length n&&v.isAgg==sh.isSome then zIE (tk && !fz) r pre i c (bif fz && !tk then zA2 v else v) else .fail
 |_,_,_=>.fail
def zUe(d:ON)(t:TypeId):PM :=
 match(zB5 P t).bind (szT P) with
 |some s=>put d (.own s [])|none=>.fail
def zNq(d:ON)(t:TypeId)(s:Nat):PM :=
 match P.underlying t,d with
 |some (.tuple ts),some d'=>.get s fun m=>match m with
  |.tup ps=>if ps.length=ts.size/\ts.size<=16 then .set d' .bad (zF7 s d' 0 ts.size) else .fail
  |_=>.fail
 |_,_=>opd (.tmp s) (put d)
def zSd(d:ON)(t:TypeId)(x:Operand):PM :=
 match x with
 |.const (.slice none 0 0)=>zUe P d t|.tmp s=>zNq P d t s|x=>opd x (put d)
def zFh(d:ON)(p:PV):PM :=
 match d,p with
 | some d',.bor r [] z lo n=>if r=d' then .get r fun root=>match root with
   |.own sz xs=>bif ble (lo+n) xs.length then .kill r [] (.set r (.own sz ((xs.drop lo).take n)) .ok) else .fail|_=>.fail
  else put d p
 |_,_=>put d p
def zGn(tk nl:Bool)(d:ON)(t:TypeId)(x:Operand):PM :=
 match x with
 |.const (.slice none 0 0)=>bif nl then zJa ((zB5 P t).bind (szT P)) fun s=>put d (.nils s) else zUe P d t
 |x=>zOh x fun p=>bif tk then zM6 p (zFh d) else zFh d p
def zVj(d:ON)(x:Operand):PM:=zOh x fun p=>zLy zAa zDp p (zFh d)
def zWg(d:ON)(c a b:Operand):PM:=opd c fun p=>zVP p fun t=>opd (if t then a else b) (put d)
def zRY(t:TypeId):PV->PV
 |.nils k=>match(zB5 P t).bind (szT P) with
  |some s=>.own s []|none=>.nils k
 |z=>z
def zSq(d:ON)(t:TypeId):PM:=zJa (zCS P t) fun z=>put d (.box (zRY P t z))
def zVK(d:ON)(t:TypeId)(x:Operand):PM:=zOh x fun p=>match shT P t,szT P t with
 |some sh,some n=>if p.cells.length=n&&p.isAgg=sh.isSome&&p.whole then put d (.box p) else .fail
 |_,_=>.fail
def zOb(d:ON)(t:TypeId)(ps:List (Nat×Operand)):PM :=
 match P.underlying t,(zCS P t).map PV.cells with
 |some (.struct fs),some z=>bif fs.all (fun f=>(szT P f.type).isSome) then zOZ (fun i=>(fs[i]?).bind fun f=>(szT P f.type).map fun n=>(f.offset,n)) z ps (fun cs=>put d (.agg cs)) else .fail
 |some (.array _ e),some z=>zJa (szT P e) fun n=>zOZ (fun i=>some (i*n,n)) z ps fun cs=>put d (.agg cs)
 |_,_=>.fail
def zXY:Option PV->ON
 |some (.own s [])=>some s|_=>none
def zYS(nz:ON)(x:Operand)(k:PV->PM):PM :=
 match nz,x with
 |some s,.const (.slice none 0 0)=>k (.own s [])|_,x=>zOh x k
def zQH(nz:ON):List Operand->(List PV->PM)->PM
 |[],k=>k []|x::xs,k=>zYS nz x fun p=>zQH nz xs fun ps=>k (p::ps)
def zD3 (tk:Bool) (d:ON) (t:TypeId) (n:Nat) (ps:List (Nat×Operand)):PM :=
 match zB5 P t with
 | some e=>match szT P e,zCS P e with
  | some s,some z=>if n*s<=65536&&beq z.cells.length s&&ps.all (fun x=>x.1<n) then zQH (zXY (zCS P e)) (ps.map (·.2)) fun vs=>zGq tk vs fun vs =>
    if (zBE vs).isEmpty&&vs.all (fun v=>v.cells.length=s&&v.isAgg=z.isAgg&&v.whole) then put d (.own s (zM1 n z ((ps.map (·.1)).zip vs))) else .fail
   else .fail
  |_,_=>.fail
 |none=>.fail
def zQL(d:ON)(sh:ON)(p:PV):PM :=
 match p with
 |.ref q=>if q.isAgg=sh.isSome&&q.cells.length=sh.getD 1 then put d q else .fail
 |.addr r pre i c _=>zNF r pre i c sh (put d)|_=>.fail
def zPj(tk:Bool)(d:ON)(t:TypeId)(a:Operand):PM:=zJa (shT P t) fun sh=>opd a fun p=>
 bif tk then(match p with
  |.addr r pre i c _=>zNF r pre i c sh fun v=>zLy zAa zDp v (put d)
  |p=>zQL d sh p) else zQL d sh p
def zZb(d:ON)(p:PV):PM :=
 match p with
 |.addr ..|.ref _|.func ..|.yld _=>put d p|_=>.fail
def zUE(d:ON)(op:BinOp)(t:TypeId)(x y:Operand):PM:=opd x fun p=>opd y fun q=>zJa (zHT P op t p q) (put d)
def unV(d:ON)(op:UnOp)(p:PV):PM :=
 match op,p with
 |.not,.bool b=>put d (.bool !b)|.neg,.int k n=>put d (.int k (k.wrap (0-n)))|_,_=>.fail
def zSr(d:ON)(t:TypeId)(p:PV):PM :=
 match P.underlying t,p with
 |some (.int k),.int _ n=>put d (.int k (k.wrap n))|_,_=>.fail
def zKU(d:ON)(f:FuncId)(first caps:List Operand):PM:=zT9 first fun a=>zT9 caps fun b=>put d (.func f a b)
def zFg(d:ON)(t:TypeId)(l c:Operand):PM :=
 opd l fun l=>zGN l fun l=>opd c fun c=>zGN c fun c=>match zB5 P t with
 |some e=>match zCS P e,szT P e,zIn P e with
  |some z,some s,some b=>if l<=c/\c<=zAJ/\b<=16384/\z.cells.length=s then put d (.own s (replicate l z)) else .fail
  |_,_,_=>.fail
 |none=>.fail
def zJk(d:ON)(t:TypeId)(x:Operand)(i:Nat):PM :=
 opd x fun p=>zJa (zMe P t i) fun f=>zJa (shT P f.type) fun sh=>zJa (zBT p f.offset sh) (put d)
def zTT(d:ON)(t:TypeId)(x:Operand)(i:Nat):PM :=
 opd x fun p=>zJa (zMe P t i) fun f=>zJa (shT P f.type) fun sh=>zJa (sub p f.offset sh) (put d)
def zPR(d:ON)(n:Nat)(e:TypeId)(p:PV)(i:Nat):PM :=
 match szT P e,shT P e with
 |some s,some sh=>if i<n then zJa (zBT p (i*s) sh) (put d) else .fail
 |_,_=>.fail
def zT3(d:ON)(e:TypeId)(p:PV)(i:Nat):PM :=
 match p with
 |.sl xs=>zJa (xs[i]?) fun x=>if szT P e=some x.cells.length then put d (.ref x) else .fail
 |.bor r pre z lo n=>match shT P e with
  |some sh=>if i<n/\szT P e=some z then put d (.addr r pre (lo+i) 0 sh) else .fail
  |none=>.fail
 |.bsl r pre j c s ag n=>if i<n/\szT P e=some s then put d (.addr r pre j (c+i*s) (if ag then some s else none)) else .fail
 |_=>.fail
def zFc(d:ON)(t:TypeId)(x i:Operand):PM :=
 opd x fun p=>opd i fun i=>zGN i fun i=>match P.underlying t with
 |some (.array n e)=>zPR P d n e p i|some (.slice e)=>zT3 P d e p i|_=>.fail
def zLw(d:ON)(t:TypeId)(x i:Operand):PM :=
 opd x fun p=>opd i fun i=>zGN i fun i=>match P.underlying t with
 |some (.array n e)=>match szT P e,shT P e with
  |some s,some sh=>if i<n then zJa (sub p (i*s) sh) (put d) else .fail
  |_,_=>.fail
 |_=>.fail
def PV.flat:PV->Bool
 |.agg cs=>cs.all PV.num|p=>p.num
def PV.lone0:PV->Bool
 |.int ..|.bool ..|.nilp|.nilf|.nilm|.nn|.nils _|.sl ..|.map .. => true|_=>false
def PV.lone:PV->Bool
 |.agg cs=>cs.all PV.lone0|p=>p.lone0
def zJ8:PV->PV
 |.own _ []=>.sl []|p=>p
def zUM (ok:TypeId->PV->Bool) (sh:TypeId->Option ON) (p:PV):List Field->Bool
  |[]=>true
  | f :: fs => (if f.name = "_" then true else match sh f.type with
    | some s=>match sub p f.offset s with
      |some a=>ok f.type a|none=>false
    |none=>false)&&zUM ok sh p fs
def zVA(ok:PV->Bool)(sh:ON)(sz:Nat)(p:PV):Nat->Nat->Bool
 |_,0=>true|i,n+1=>(match sub p (i*sz) sh with
  |some a=>ok a|none=>false)&&zVA ok sh sz p (i+1) n
def zPp:Nat->TypeId->PV->Bool
 |0,_,_=>false
 | n + 1,t,p =>
  match P.underlying t,p with
  |some (.int _),.int .. => true|some .bool,.bool _=>true|some (.struct fs),.agg xs=>zUM (zPp n) (shT P) (.agg xs) fs.toList|some (.array len e),.agg xs=>match szT P e,shT P e with
   |some sz,some sh=>zVA (zPp n e) sh sz (.agg xs) 0 len|_,_=>false
  |_,_=>false
def zCV(kt:TypeId)(key:PV):List (PV×PV)->Nat->Option ON
 |[],_=>some none
 | (k,_)::es,i=>match eqT P 20 kt key k with
  |some true=>match zFT key.cells k.cells with
   |some true=>some (some i)|_=>none
  |some false=>zCV kt key es (i+1)|none=>none
def zJy(d:ON)(kt:TypeId)(z key:PV)(ok:Bool)(es:List (PV×PV)):PM :=
 match zCV P kt key es 0 with
 |some (some i)=>match es[i]? with
  |some (_,v)=>bif v.lone then zDB d (if ok then .tup [v,.bool true] else v) else .fail
  |none=>.fail
 |some none=>zDB d (if ok then .tup [z,.bool false] else z)
 |none=>.fail
def zVi(d:ON)(kt:TypeId)(z key:PV)(ok:Bool)(m:PV):PM :=
 match m with
 |.nilm=>zJy P d kt z key ok []|.map es=>zJy P d kt z key ok es|.bmap r pre=>.deep r pre fun q=>match q with
  |.omap es=>zJy P d kt z key ok es|_=>.fail
 |_=>.fail
def zIT(d:ON)(t:TypeId)(m x:Operand)(ok:Bool):PM :=
 opd m fun m=>opd x fun key=>match P.underlying t with
 |some (.map kt e)=>bif zPp P 20 kt key then zJa (zCS P e) fun z=>bif (zJ8 z).lone then zVi P d kt (zJ8 z) key ok m else .fail else .fail
 |_=>.fail
def zMF(kt:TypeId)(key v m:PV):PM :=
 match m with
 | .bmap r pre=>bif v.lone then .deep r pre fun q=>match q with
  |.omap es=>match zCV P kt key es 0 with
   |some (some i)=>.wnode r pre (.omap (es.modify i fun _=>(key,v))) .ok
   |some none=>.wnode r pre (.omap (es++[(key,v)])) .ok|none=>.fail
  |_=>.fail else .fail
 |_=>.fail
def zFq(t:TypeId)(m x y:Operand):PM:=opd m fun m=>opd x fun key=>match P.underlying t with
 |some (.map kt _)=>bif zPp P 20 kt key&&key.flat then zOh y fun v=>zLy zAa zDp v fun v=>zMF P kt key (zA2 v) m else .fail
 |_=>.fail
def zPw (d:ON) (kt:TypeId) (z key m:PV):PM :=
 match m with
 | .bmap r pre => .deep r pre fun q=>match q with
  | .omap es=>match zCV P kt key es 0 with
   |some (some i)=>match es[i]? with
    |some (_,v)=>bif v.lone then .wnode r pre (.omap (es.modify i fun _=>(key,v))) (zDB d (.tup [v,.int .i64 i])) else .fail
    |none=>.fail
   |some none=>.wnode r pre (.omap (es++[(key,z)])) (zDB d (.tup [z,.int .i64 es.length]))|none=>.fail
  |_=>.fail
 |_=>.fail
def zGE(d:ON)(t:TypeId)(m x:Operand):PM:=opd m fun m=>opd x fun key=>match P.underlying t with
 |some (.map kt el)=>bif zPp P 20 kt key&&key.flat then zJa (zCS P el) fun z=>bif (zJ8 z).lone then zPw P d kt (zJ8 z) key m else .fail else .fail
 |_=>.fail
def zI2(i:Nat)(v m:PV):PM :=
 match m with
 | .bmap r pre=>bif v.lone then .deep r pre fun q=>match q with
  |.omap es=>match es[i]? with
   |some (k,_)=>.wnode r pre (.omap (es.modify i fun _=>(k,v))) .ok
   |none=>.fail
  |_=>.fail else .fail
 |_=>.fail
def zEF(m s y:Operand):PM:=opd m fun m=>opd s fun s=>zGN s fun i=>zOh y fun v=>zLy zAa zDp v fun v=>zI2 i (zA2 v) m
def zKr(d:ON)(s i:Nat):PM := .get s fun m=>match m with
 |.tup ps=>bif blt i ps.length then .get (zBD s i) fun p=>bif p.heavy then .set (zBD s i) .bad (put d p) else put d p else .fail
 |_=>.fail
def zVf(d:ON)(args:List Operand)(g:PV):PM :=
 match g with
 |.func g first caps=>zT9 args fun as=>zOK H d g (first++as++caps)
 |_=>.fail
def zKq(d:ON)(c:Call):PM :=
 match c.callee with
 |.builtin b=>zBB P d b c.argTypes.toList c.args.toList|.value f=>opd f (zVf H d c.args.toList)|_=>.fail
def opM(fz tk nl:Bool)(o:Oper):PM :=
 match o.op with
 |.move x=>zSd P o.dst o.type x|.assign x=>bif fz&&tk then zVj o.dst x else zGn P tk nl o.dst o.type x|.pick c a b=>zWg o.dst c a b|.alloc t=>zSq P o.dst t|.box t x=>zVK P o.dst t x|.build t ps=>zOb P o.dst t ps.toList|.buildSlice t n ps=>zD3 P tk o.dst t n ps.toList|.load t a=>zPj P tk o.dst t a|.store t a x=>zO9 P fz tk t a x|.nilCheck x=>opd x (zZb o.dst)|.binOp op t x y _=>zUE P o.dst op t x y|.unOp op _ x=>opd x (unV o.dst op)|.convert _ t x=>opd x (zSr P o.dst t)|.makeFunc (.func f) first caps=>zKU o.dst f first.toList caps.toList
 |.makeMap _ none=>put o.dst (.omap [])|.makeSlice t l c=>zFg P o.dst t l c|.slice t x lo hi mx=>zJj P o.dst t x lo hi mx|.fieldAddr t x i=>zJk P o.dst t x i|.field t x i=>zTT P o.dst t x i|.indexAddr t x i=>zFc P o.dst t x i|.index t x i=>zLw P o.dst t x i|.lookup t m x ok=>zIT P o.dst t m x ok|.mapUpdate t m x y=>zFq P t m x y|.mapEntry t m x=>zGE P o.dst t m x|.entryStore _ m s x=>zEF m s x|.extract (.tmp s) i=>zKr o.dst s i|.call c=>zKq P H o.dst c|_=>.fail
def zFP(ops:Array Oper)(fz tk nl:Bool)(o:Oper):PM :=
 match o.guard with
 |none=>opM P H fz tk nl o
 | some (j,want)=>match (ops[j]?).bind (·.dst) with
  |some t=>.get t fun p=>match p with
   |.bool b=>if b=want then opM P H fz tk nl o else put o.dst .und
   |.und=>put o.dst .und|_=>.fail
  |none=>.fail
structure Log where
 xs:List (List PV)
 k:Int
 at_:Nat
 deriving Inhabited
def zQR(e:Env):Operand->PV
 |.tmp t=>view t (e.get t)|.const v=>zEQ v|_=>.bad
def zCr(e:Env)(o:Oper):Option (Nat×List PV) :=
 match o.op with
 | .call c=>match c.callee with
  |.value (.tmp t)=>match e.get t with
   |.yld h=>some (h,c.args.toList.map (zQR e))|_=>none
  |_=>none
 |_=>none
def zMq(ops:Array Oper)(e:Env)(o:Oper):Option Bool :=
 match o.guard with
 |none=>some true
 | some (j,want)=>match (ops[j]?).bind (·.dst) with
  |some t=>match e.get t with
   |.bool b=>some (b==want)|.und=>some false|_=>none
  |none=>none
def zB4(orc:zAM)(ops:Array Oper)(o:Oper)(h:Nat)(args:List PV)(l:Log)(e:Env):Option (Env×Option Log) :=
 match zMq ops e o with
 | some true=>bif args.all PV.flat&&l.k != 0&&beq h l.at_ then
   (bif l.k==1 then(put o.dst (.bool false)).run orc (e.forget zAa) else(put o.dst (.bool true)).run orc e).map fun e'=>(e',some ⟨l.xs++[args],l.k-1,l.at_⟩)
  else none
 |some false=>((put o.dst .und).run orc e).map fun e'=>(e',some l)
 |none=>none
def zC1(orc:zAM)(fz tk nl:Bool)(ops:Array Oper)(o:Oper)(e:Env)(lg:Option Log):Option (Env×Option Log) :=
 match lg with
 |none=>((zFP P H ops fz tk nl o).run orc e).map fun e'=>(e',none)
 |some l=>match zCr e o with
  |some (h,args)=>zB4 orc ops o h args l e|none=>((zFP P H ops fz tk nl o).run orc e).map fun e'=>(e',some l)
def zEx(orc:zAM)(fz tk nl:Bool)(ops:Array Oper)(o:Oper)(e:Env)(lg:Option Log):Option (Env×Option Log×Tok) :=
 match lg with
 |none=>((zFP P H ops fz tk nl o).runT orc e).map fun x=>(x.1,none,x.2)
 |some l=>match zCr e o with
  |some (h,args)=>(zB4 orc ops o h args l e).map fun x=>(x.1,x.2,{all:=true})
  |none=>((zFP P H ops fz tk nl o).runT orc e).map fun x=>(x.1,some l,x.2)
def zBl(orc:zAM)(fzs tks:LN)(nl:Bool)(ops:Array Oper):List Oper->Nat->Env->Option Log->Option (Env×Option Log)
 |[],_,e,lg=>some (e,lg)|o::l,i,e,lg=>match zC1 P H orc (fzs.contains i) (tks.contains i) nl ops o e lg with
  |some (e',lg')=>zBl orc fzs tks nl ops l (i+1) e' lg'|none=>none
def zID(acc:LN)(o:Oper):Nat:=o.after.toList.foldl (fun s e=>if Region.binds .any e then s ||| 2 ^ e.on ||| acc.getD e.on 0 else s) 0
def zGB(b:Nat)(t:Tok):Nat->List Tok->Bool
 |_,[]=>true|j,u::us=>(b.testBit j || !zRa u t)&&zGB b t (j+1) us
def zCF(orc:zAM)(fzs tks:LN)(nl:Bool)(ops:Array Oper):List Oper->Nat->LN->List Tok->Env->Option Log->Option (Env×Option Log)
 |[],_,_,_,e,lg=>some (e,lg)
 | o :: l,i,acc,ts,e,lg =>
  match zEx P H orc (fzs.contains i) (tks.contains i) nl ops o e lg with
  |some (e',lg',t)=>
   bif o.after.toList.all (fun e=>!Region.binds .any e||blt e.on i)&&zGB (zID acc o) t 0 ts then zCF orc fzs tks nl ops l (i+1) (acc++[zID acc o]) (ts++[t]) e' lg' else none
  |none=>none
inductive X where
 |norm|ex (id:Nat)|ret
 deriving DecidableEq
def zNd(l:LN)(s:Nat):Bool:=l.contains (if 2000000<=s then(s-2000000) / 16 else s)
def Env.drop(e:Env)(l:LN):Env :=
 e.filter fun x=>!zNd l x.1
def Env.put(e:Env)(k:Nat)(v:PV):Env :=
 match v with
 |.bad=>e.filter fun x=>!Nat.beq x.1 k
 |v=>e.set k v
def Env.norm:Env->Env
 |[]=>[]|(k,v)::e=>(Env.norm e).put k v
def zA5:Code->Nat
 |.region id _ _=>id|.seq a _=>zA5 a|.block _ b=>zA5 b|.loop b=>zA5 b|_=>0
def zB3:Code->LN
 |.region _ ops _=>ops.toList.filterMap (·.dst)|.seq a b=>zB3 a++zB3 b|.cond _ a b=>zB3 a++zB3 b|.block _ b=>zB3 b|.loop b=>zB3 b|.scope b=>zB3 b|_=>[]
def zCI:List Tmp->List PV->Env->Option Env
 |[],[],e=>some e|t::ts,v::vs,e=>if (e.get t).heavy then none else zCI ts vs (e.set t v)
 |_,_,_=>none
def zEK:LN->Env->Option Env
 |[],e=>some e|r::R,e=>bif blt r zAa then match e.frz r [] with
  |some e'=>zEK R e'|none=>none
  else none
def zXJ(R:LN)(e:Env):Env :=
 match zEK R e with
 |some e'=>e'|none=>e
def zC5(e:Env)(R:LN):LN:=R++(e.filter fun x=>x.2.heavy && !R.contains x.1&&x.2.ways.any fun w=>R.contains w.1).map (·.1)
def zGz(e:Env)(R:LN):Bool:=R.all fun r=>(e.get r).ways.all fun w=>R.contains w.1
def after(nt:Nat)(R ds:LN)(e0 e:Env):Env:=e0.map fun x=>
 (x.1,bif R.contains x.1 || !x.2.heavy&&x.2.ways.all (fun w=>R.contains w.1) then x.2 else bif !(blt x.1 nt && !ds.contains x.1||ble zAk x.1&&blt x.1 zAI) then .bad else bif (R.isEmpty||(e.get x.1).free) && !(e.get x.1).isTup then e.get x.1 else .bad)
def zDn (nt:Nat) (run:Code->Env->Option (X×Env)) (ps:List Tmp) (assign body:Code) (R ds:LN):List (List PV)->Env->Nat->Option (Option (Nat×X)×Env)
 |[],e,_=>some (none,e)
 | x :: xs,e,j =>
  let round (e:Env):Option (X×Env):=match zCI ps x e with
   |some e1=>match run assign e1 with
    |some (.norm,e2)=>run body e2|_=>none
   |none=>none
  match round e with
  | some (.norm,e3)=>match R with
   |[]=>zDn nt run ps assign body R ds xs (after nt [] ds e e3) (j+1)
   | r :: R=>match (bif zGz e (zC5 e (r::R)) then zEK (zC5 e (r::R)) e else none) with
    |some e1=>match round e1 with
     |some (.norm,e3)=>zDn nt run ps assign body (r::R) ds xs (after nt (zC5 e (r::R)) ds e e3) (j+1)|_=>none
    |none=>none
  |some (r,e3)=>some (some (j+1,r),after nt [] ds e e3)|none=>none
def zD1(e:Env)(t:Nat):Option (FuncId×List PV×List PV×LN) :=
 match(zQW (view t (e.get t)) fun q l=>.set 0 (.tup [q]) (.set 1 (.tup (l.map fun x=>.int .i64 x.1)) .ok)).run (fun _ _ _=>none) e with
 |some e'=>match e'.get 0,e'.get 1 with
  |.tup [.func g first caps],.tup l=>some (g,first,caps,(l.filterMap fun|.int _ n=>some n.toNat|_=>none).eraseDups)
  |_,_=>none
 |none=>none
abbrev zC2:=FuncId->List PV->Nat->List PV->Int->Option (List (List PV))
abbrev All:=(Nat->Option (List (List PV)))->Option (List (List PV))
def zHl (nt:Nat) (yo:zC2) (al:All) (run:Code->Env->Option (X×Env)) (t:Tmp) (ps:List Tmp) (assign body:Code) (e:Env):Option (X×Env) :=
 match zD1 e t with
 | some (g,first,caps,R) =>
  match al (fun i=>yo g first i caps (-1)) with
  | some xs=>match zDn nt run ps assign body R (ps++zB3 assign++zB3 body) xs e 0 with
   |some (none,e')=>some (.norm,e')
   | some (some (j,_),_)=>match al (fun i=>yo g first i caps j) with
    |some ys=>match zDn nt run ps assign body R (ps++zB3 assign++zB3 body) ys e 0 with
     |some (some (j',r),e')=>if j'=j/\ys.length=j then some (r,e') else none
     |_=>none
    |none=>none
   |none=>none
  |none=>none
 |none=>none
def exec (orc:zAM) (yo:zC2) (al:All) (nt:Nat) (h:FHint):Nat->Code->Env->Option Log->Option (X×Env×Option Log)
 |0,_,_,_=>none
 | n + 1,c,e,lg=>match c with
  |.skip=>some (.norm,e,lg)|.region id ops draw=>match(if draw then zCF P H orc (h.frzs id) (h.take id) h.nils ops ops.toList 0 [] [] e lg else zBl P H orc (h.frzs id) (h.take id) h.nils ops ops.toList 0 e lg) with
   |some (e',lg')=>some (.norm,(e'.drop (h.drop id)).norm,lg')|none=>none
  |.seq a b=>match exec orc yo al nt h n a e lg with
   |some (.norm,e',lg')=>exec orc yo al nt h n b e' lg'|r=>r
  | .cond c a b=>match c with
   |.tmp t=>match e.get t with
    |.bool true=>exec orc yo al nt h n a e lg|.bool false=>exec orc yo al nt h n b e lg|_=>none
   |.const (.bool true)=>exec orc yo al nt h n a e lg|.const (.bool false)=>exec orc yo al nt h n b e lg|_=>none
  |.block id b=>match exec orc yo al nt h n b e lg with
   |some (.ex id',e')=>some (if id'=id then .norm else .ex id',e')
   |r=>r
  |.loop b=>match exec orc yo al nt h n b (e.drop (h.loopDrop (zA5 b))) lg with
   |some (.norm,e',lg')=>exec orc yo al nt h n (.loop b) e' lg'|r=>r
  |.exit id=>some (.ex id,zXJ (h.ices id) e,lg)|.ret=>some (.ret,e,lg)|.label _=>some (.norm,e,lg)|.scope b=>exec orc yo al nt h n b e lg|.rangeFunc (.tmp t) ps assign body=>match lg with
   |none=>(zHl nt yo al (fun c e=>match exec orc yo al nt h n c e none with|some (x,e',none)=>some (x,e')|_=>none) t ps.toList assign body e).map fun x=>(x.1,x.2,none)
   |some _=>none
  |_=>none
def zRz(p:PV)(k:PV->PM)(k2:PM):PM :=
 match p with
 |.bor r pre _ lo n=>.deep r pre fun q=>match q with
  |.own sz xs=>bif ble (lo+n) xs.length then .wnode r pre .bad (k (.own sz ((xs.drop lo).take n))) else k2|_=>k2
 |.addr r pre 0 0 _=>.deep r pre fun q=>match q with
  |.box q=>.wnode r pre .bad (k (.box q))|_=>k2
 |.bmap r pre=>.deep r pre fun q=>match q with
  |.omap es=>.wnode r pre .bad (k (.omap es))|_=>k2
 |_=>k2
def zFW(frz:Bool)(p:PV)(k:PV->PM):PM :=
 bif frz||p.ways.any (fun w=>ble zAk w.1) then zLy zAk zDp p k else zRz p k (zLy zAk zDp p k)
def zCJ(frz:Bool):List PV->(List PV->PM)->PM
 |[],k=>k []|p::ps,k=>zFW frz p fun q=>zCJ frz ps fun qs=>k (q::qs)
def zGW(frz:Bool)(p:PV)(k:PV->PM):PM :=
 match p with
 |.agg cs=>zCJ frz cs fun qs=>k (.agg qs)
 |p=>zFW frz p k
def zCU(frz:Bool):Nat->List ResultVar->PM
 |_,[]=>.ok|j,.tmp t::rs=>.view t fun p=>zGW frz p fun q=>lay (zAI+j) q (zCU frz (j+1) rs)
 |j,.cell a t::rs=>zJa (shT P t) fun sh=>.view a fun p=>match p with
  |.addr r pre i c _=>zNF r pre i c sh fun v=>zGW frz v fun q=>lay (zAI+j) q (zCU frz (j+1) rs)
  |_=>.fail
def zXa(e:Env)(n:Nat):PV :=
 if n=1 then e.get zAI else .tup ((range n).map fun j=>e.get (zAI+j))
def zBg(args hid:List PV):Env :=
 (args.zipIdx.map fun(p,i)=>(i,p))++hid.zipIdx.map fun(p,j)=>(zAk+j,p)
def zZE(x y:Int×Int):Bool:=decide (x.1<y.1)||decide (x.1=y.1)&&decide (x.2<=y.2)
def zZF(p:Int×Int):Bool:=decide (0<=p.1)&&decide (p.1<1000000)&&decide (0<=p.2)&&decide (p.2<1000000)
def zZD:PV->Option (Int×Int)
 |.agg [.int .i64 a,.int .i64 b]=>some (a,b)|_=>none
def zZr(g:Nat)(args hid:List PV):Option (PV×List PV):=match args,hid with
 |[.bor r [] 2 0 n,.func f [] []],[.own 2 xs]=>match xs.mapM zZD with
  |some ps=>if r=zAk/\n=ps.length/\ps.length<=zAJ/\f=g/\ps.all zZF=true then some (.tup [],[.own 2 ((ps.mergeSort zZE).map fun p=>.agg [.int .i64 p.1,.int .i64 p.2])]) else none
  |none=>none
 |_,_=>none
def zEX(xs:List PV):Option LI:=xs.mapM fun|.int .i64 n=>some n|_=>none
def intrin(fn:Func)(w:Nat)(args hid:List PV):Option (PV×List PV) :=
 match w,args,hid with
 |1,[.sl xs],[]=>match(fn.resultTypes[0]?).bind (fun t=>(zB5 P t).bind (szT P)) with
  |some sz=>if xs.all (fun x=>x.plain&&x.cells.length=sz)&&xs.length<=zAJ then some (.own sz xs,[]) else none
  |none=>none
 |1,[.nils _],[]=>match(fn.resultTypes[0]?).bind (fun t=>(zB5 P t).bind (szT P)) with
  |some sz=>some (.own sz [],[])|none=>none
 |2,[.bor r [] 1 0 n],[.own 1 xs]=>match zEX xs with
  |some is=>if r=zAk/\n=is.length/\is.length<=zAJ then some (.tup [],[.own 1 ((is.mergeSort (fun a b=>decide (a<=b))).map (.int .i64))]) else none
  |none=>none
 | 2,[.bor r [(i,0)] 1 0 n],[.own 1 rows]=>match rows[i]? with
  |some (.own 1 xs)=>match zEX xs with
   |some is=>if r=zAk/\n=is.length/\is.length<=zAJ then some (.tup [],[.own 1 (rows.set i (.own 1 ((is.mergeSort (fun a b=>decide (a<=b))).map (.int .i64))))]) else none
   |none=>none
  |_=>none
 |3,[.own sz xs,.int _ i,.int _ j],[]=>
  bif decide (0<=i)&&decide (i<=j)&&ble j.toNat xs.length then some (.own sz (xs.take i.toNat++xs.drop j.toNat),[]) else none
 |5,[.int .u64 n],[]=>some (.int .i64 (if n<=0 then 0 else Nat.log2 n.toNat+1),[])
 |w,args,hid=>if 100<=w then zZr (w-100) args hid else none
def zJt(orc:zAM)(yo:zC2)(al:All)(n:Nat)(f:FuncId)(fn:Func)(body:Code)(args hid:List PV):Option (PV×List PV) :=
 bif ble args.length fn.ntmps&&ble hid.length 1000&&args.all (fun p=>!p.isTup) then
  match exec P H orc yo al fn.ntmps (H f) n body (zBg args hid) none with
  |some (.norm,e,none)|some (.ret,e,none)=>
   match(zCU P (H f).frz 0 fn.results.toList).run orc e with
   |some e'=>bif beq fn.results.size 1&&(e'.get zAI).isTup then none else some (zXa e' fn.results.size,(range hid.length).map fun j=>e'.get (zAk+j))
   |none=>none
  |_=>none
 else none
def zGe(orc:zAM)(yo:zC2)(al:All)(n:Nat)(f:FuncId)(args hid:List PV):Option (PV×List PV) :=
 match P.funcs[f]? with
  |some fn=>if (H f).intr≠0 then intrin P fn (H f).intr args hid else match fn.body with
   |some body=>zJt P H orc yo al n f fn body args hid|none=>none
  |none=>none
def zYK (orc:zAM) (yo:zC2) (al:All) (n:Nat) (f:FuncId) (first:List PV) (i:Nat) (caps:List PV) (k:Int):Option (List (List PV)) :=
 match P.funcs[f]? with
  | some fn=>match fn.body with
   | some body=>bif ble (first++PV.yld i::caps).length fn.ntmps&&fn.results.isEmpty&&(first++caps).all (fun p => !p.isTup)&&k != 0&&beq (H f).intr 0 then
     match exec P H orc yo al fn.ntmps (H f) n body (zBg (first++PV.yld i::caps) []) (some ⟨[],k,i⟩) with
     |some (.norm,_,some l)|some (.ret,_,some l)=>some l.xs|_=>none
    else none
   |none=>none
  |none=>none
def zSa(al:All):Nat->zAM×zC2
 |0=>(fun _ _ _=>none,fun _ _ _ _ _=>none)
 |n+1=>(fun f args hid=>zGe P H (zSa al n).1 (zSa al n).2 al (n+1) f args hid,fun f first i caps k=>zYK P H (zSa al n).1 (zSa al n).2 al (n+1) f first i caps k)
open Classical in
noncomputable def zCe:All:=fun x=>if h:∃ r,∀ i,x i=some r then some (Classical.choose h) else none
class Yo where
 yo:zC2
noncomputable def zCL[Yo]:Nat->zAM
 |0=>fun _ _ _=>none
 |n+1=>fun f args hid=>zGe P H (zCL n) Yo.yo zCe (n+1) f args hid
end Go.Eng
namespace Go.Eng
def zDX:List (Nat×LN)->Nat->LN
 |[],_=>[]|(k,l)::r,i=>bif beq k i then l else zDX r i
def zYX:List (Nat×FHint)->Nat->FHint
 |[],_=>{}|(k,h)::r,i=>bif beq k i then h else zYX r i
end Go.Eng
namespace Go.Eng
open Go
def rg(a:Nat):Nat->LN
 |0=>[]|n+1=>a::rg (a+1) n
def hh(d l t:List (Nat×LN)):FHint:={drop:=zDX d,loopDrop:=zDX l,take:=zDX t}
def zCG:zBh:=fun f=>zYX [(13,{drop:=zDX [(0,[8]),(1,[0,35,36,37]),(2,[1,38,39,40]),(3,[2,42,43,44]),(4,[46,47,48,51]),(5,[13]++rg 52 6),(7,[59,60,61]),(11,[67]),(12,rg 71 4++[77]),(13,[18,19]++rg 78 7),(17,[90,91]),(18,rg 92 4),(19,rg 97 5),(20,rg 104 4++[110]),(21,[23]++rg 111 23),(25,[139,140,141]),(26,[24,25]++rg 142 34),(28,[177]),(29,[21,22]++rg 178 8),(30,[26,27]++rg 186 5),(32,[192]),(33,[193]),(34,[12,15,194,195,196]),(37,[198,199]),(39,[203]),(40,rg 204 5),(41,[29,210,211,212]),(42,[214]),(43,rg 216 4++[222]),(44,[28]++rg 224 4++[230]),(45,[31,32]++rg 231 23),(47,[13,255]),(48,[10,11,30]++rg 257 6),(51,[34,269,270]),(53,[272]),(54,[273])],loopDrop:=zDX [(10,[8]++rg 16 4++rg 21 7++rg 66 36++rg 103 91),(16,[8]++rg 21 7++rg 89 13++rg 103 90),(24,[8,24,25]++rg 138 40),(38,[29]++rg 202 11++[214]),(49,[8,34]++rg 266 7)],take:=zDX [(41,[2])],frzs:=zDX [(1,[4])]}),(17,hh [(0,[0]),(1,[17]),(2,[20,21,24]),(3,rg 25 6),(4,[32,33,36]),(5,[9]++rg 37 6),(6,rg 3 6++[10]++rg 43 31),(8,[76,77,78,81]),(9,rg 82 6),(10,[2,89,90,93]),(11,[95,98]),(12,[4,6,8]++rg 10 5++rg 99 34)] [] []),(20,hh [(0,[2]),(1,[4,5]),(2,[0,7,8,9])] [] [(3,[1])]),(22,hh [(0,[0,6,7]),(1,[1,11,12,13,16]),(2,[17]),(3,[9,19]),(4,[2,8]++rg 20 4)] [] [(3,[2])]),(26,hh [(0,[0,6,7]),(1,[1,2,14,15,16,19]),(2,[20]),(3,[9,22]),(7,[27,28]),(8,rg 29 7),(9,rg 37 4),(10,[42]),(11,[10,43])] [(6,[12]++rg 26 15++[42])] [(3,[2])]),(28,hh [(0,[4]),(1,[0,1,5,6,7])] [] []),(29,hh [(0,[0,4,5]),(1,[1,12,13,16]),(2,[17]),(3,[7,19]),(4,[20,21]),(5,[22,23,24]),(6,[25,26]),(7,[28,29,30]),(8,[31]),(9,[32,33]),(11,[34]),(12,[8,35])] [(6,rg 25 10)] []),(31,hh [(0,[0,4,5]),(1,[1,12,13,16]),(2,[17]),(3,[7,19]),(4,[20,21]),(7,[24]),(8,rg 25 4),(9,[10,30,31]),(10,[32,33,34]),(11,[35]),(12,[6]++rg 36 4),(14,[8,41])] [(6,[10]++rg 23 13)] []),(34,hh [(0,[4]),(1,[0,1,5,6,7])] [] []),(35,hh [(0,[2]),(1,[4,5]),(2,[0,7,8,9])] [] [(3,[1])]),(36,hh [(0,[0,8,9]),(1,[1,16,17,20]),(2,[22,23]),(3,[11,24]),(4,rg 26 4),(6,rg 31 11),(8,[42,43]),(11,[48,49,50]),(12,[13,14]++rg 51 31),(14,[83,84,85]),(15,[86])] [(10,[8,9,13,14]++rg 47 40)] [(3,[2])]),(38,hh [(0,[0,3,8,9]),(1,[1,18,19,22]),(2,[24,25]),(3,[11,26]),(4,rg 28 10),(6,rg 38 6),(7,[44,45,46]),(8,rg 47 11),(9,[59,60]),(11,rg 62 11),(12,[2,73,74]),(13,[75,76,77]),(14,[78]),(15,[80,81]),(16,rg 82 4),(18,rg 88 9),(19,[16]++rg 98 4),(21,[102])] [(8,[8,9]++rg 47 26),(14,[16]++rg 78 25)] [(3,[2]),(12,[1]),(19,[1]),(22,[1])]),(44,{drop:=zDX [(0,[0,8,9]),(1,[1,2,10,19,20,21,22,24,26,27]),(2,[28]),(3,[13,30]),(4,[31,32]),(6,[36]),(9,[41,42]),(10,[16]++rg 43 6),(11,[49,50,51]),(12,[53]),(13,[54])],loopDrop:=zDX [(5,[14,16,17]++rg 35 17++[53,54]),(8,[16,17]++rg 40 12++[53])],take:=zDX [(3,[2]),(14,[1])],frz:=true}),(48,{drop:=zDX [(1,[1]++rg 17 4),(3,[21,22,23]),(4,[25,26]),(5,[27,28]),(6,rg 30 11),(7,rg 41 14),(8,rg 56 9),(10,[2,65,66]),(12,[70]),(14,rg 71 7),(15,rg 79 5),(16,rg 84 4),(17,[14]++rg 88 4),(18,[12,93,94,95]),(19,[13]++rg 97 9),(20,[106]),(21,[3,107,108]),(24,[112]),(26,[116]),(27,[117]),(28,[16,119,120,121]),(29,[123]),(30,[15]++rg 124 6),(31,[130]),(32,[131])],loopDrop:=zDX [(3,rg 21 20),(11,[12,13,14]++rg 69 23++[93,94,95]++rg 97 10),(22,[15,16]++rg 111 20),(25,[16]++rg 115 7++[123])],take:=zDX [(18,[2]),(28,[2]),(30,[3]),(32,[1])],mode:=[1,0,0,0]}),(49,hh [(0,[2]),(1,[0,3,4])] [] []),(50,{drop:=zDX [(0,[1,6]),(2,[2,8,9]),(4,rg 13 15),(5,[29])],loopDrop:=zDX [(3,rg 12 16++[29])],take:=zDX [(6,[1])],mode:=[1,0,0]}),(51,hh [(0,[0,8,9]),(1,[1,16,17,18,21]),(2,[23,24]),(3,[11,25]),(4,rg 27 4),(7,[2,3,10,31,32]),(9,[38]),(10,[39]),(11,[14,41,42,43]),(12,[45]),(13,[46,47])] [(8,[14]++rg 37 7++[45])] [(3,[2]),(11,[2]),(14,[1])]),(52,hh [(0,[4]),(1,[0,1,5,6,7,8])] [] []),(54,hh [(0,[0,4]),(1,rg 5 6),(2,rg 12 6),(3,[1,18])] [(1,rg 5 13)] [(3,[1])]),(56,{drop:=zDX [(0,[3,4]),(1,[0,2]++rg 5 6)],mode:=[1],intr:=2}),(57,hh [(0,[0,8,9]),(1,[1,2,19,20,21,22,26,27]),(2,[28]),(3,[13,30]),(5,[31,32]),(7,[36]),(8,rg 37 7),(9,[15]++rg 46 8++[56]),(10,[17,57]),(12,[16,59,60]),(13,[62])] [(6,[8,9,15,16,17]++rg 35 26++[62])] [(3,[2]),(14,[1])]),(58,hh [(0,[4]),(1,[0,1,5,6,7,8])] [] []),(59,hh [(0,[0,6]),(1,[20,21]),(5,[28,29]),(6,[32]),(8,[39,40]),(9,[12]++rg 41 11),(10,[52]),(11,[53]),(12,[2]),(14,[57]),(15,[59]),(17,[63]),(18,[64]),(20,[68]),(23,[76,77]),(24,[78,79,80]),(25,[17]++rg 82 10),(26,[92]),(27,[93]),(28,[94]),(30,[96]),(34,[19,103,104]),(35,[105])] [(4,[10,12]++rg 27 27),(7,[12]++rg 38 15),(13,[14,15,17,56,57]++rg 59 38),(16,[14,15,17]++rg 62 33),(19,[15,17]++rg 67 27),(22,[17]++rg 75 18),(32,[19]++rg 100 6)] [(29,[1]),(36,[1])]),(61,{drop:=zDX [(0,[2]),(1,[3]),(3,[0,5,6])],intr:=1}),(65,{drop:=zDX [(0,[2]),(1,[3]),(3,[0,5,6])],intr:=1}),(67,hh [(0,[0,4]),(3,[12,13,14]),(4,[15,16,17]),(5,[5,19,20,21]),(6,[22]),(7,[1,23])] [(2,[4,5,6]++rg 11 12)] [(7,[1])]),(76,hh [(0,[0,2]),(1,rg 5 23),(3,[29,30]),(4,[31]),(5,[3,33]),(6,[34,35]),(7,[36]),(8,[4,38]),(9,rg 40 5),(11,rg 46 4)] [] [(5,[1]),(8,[1])]),(77,hh [(0,[0,1,2,6]),(1,rg 7 4)] [] []),(78,hh [(0,[4]),(1,[0,1,5,6,7])] [] []),(79,hh [(0,[0,4]),(1,[1,5,6,7,8])] [] []),(80,hh [(0,[3]),(1,[0,1]++rg 4 5)] [] []),(81,hh [(0,[1,4]),(1,[0,5,6,7,8])] [] []),(83,hh [(0,[1]),(1,rg 3 11),(2,[14,15,16])] [] [(2,[4])]),(86,hh [(0,[0,2,3]),(1,[10,13]),(2,[14]),(3,[5,16]),(7,[22,23,24]),(8,rg 25 12),(9,[7,38,39,40]),(10,[42])] [(6,[7,8]++rg 21 20++[42])] [(3,[2]),(9,[2]),(11,[1])]),(89,hh [(0,[2]),(1,[6,7]),(4,[13]),(5,[4,5]++rg 16 5),(6,[21])] [(3,[4,5]++rg 12 10)] [(7,[1])]),(90,{drop:=zDX [(0,[0,6,7]),(1,[1,11,12,15]),(2,[2]++rg 16 6),(4,[23]),(5,[9,25])],take:=zDX [(5,[2]),(6,[1])],frz:=true}),(91,hh [(0,[1,4]),(2,rg 8 4),(4,[15]),(5,rg 16 5),(7,[24]),(8,rg 25 21),(9,[7]++rg 47 5),(10,[53]),(11,[54])] [(3,[6,7]++rg 14 38++[53,54]),(6,[7]++rg 23 29++[53])] [(12,[1])]),(92,hh [(1,[6,7]),(2,[1]),(4,[11,12,13]),(5,[14]),(6,[15])] [(3,rg 10 5)] []),(97,{drop:=zDX [(0,[2]),(1,[6,7]),(4,[10,11,12]),(5,[14,15]),(6,rg 16 9),(9,[29,30,31]),(10,[33,34]),(11,rg 35 9),(12,rg 45 7),(13,[52,53]),(14,[54,55,56]),(15,[3])],loopDrop:=zDX [(4,[2,4,5]++rg 10 50),(9,rg 29 25)],take:=zDX [(2,[1]),(16,[1])],mode:=[2]}),(98,hh [(0,[4]),(1,rg 6 4),(3,[11]),(5,[15]),(6,[5]++rg 16 8),(8,[25])] [(4,[4,5]++rg 14 12)] []),(99,{drop:=zDX [(0,[0,4,5]),(1,[9,12]),(2,[14,15]),(3,[7,16]),(4,[18,19,20]),(6,rg 22 5),(8,[1]++rg 27 4)],take:=zDX [(3,[2]),(8,[4]),(9,[1])],frz:=true}),(100,hh [(4,[13]),(7,[16]),(8,[5]++rg 17 4),(9,[21]),(10,[22]),(12,rg 25 4),(14,[32]),(17,[40,41]),(18,rg 42 4),(19,rg 47 7),(20,[10]++rg 54 13),(21,[67]),(22,[68]),(23,[69])] [(3,[4,5]++rg 12 11),(6,[5]++rg 15 7),(13,[7,9,10]++rg 31 38),(16,[9,10]++rg 39 29)] []),(101,hh [(0,[1]),(1,[10]),(2,rg 11 4),(4,[18]),(5,[19,20]),(7,[7]),(9,[28,29]),(10,[8,9]++rg 30 12),(11,[42]),(12,[43]),(13,[44])] [(3,rg 6 4++rg 17 27),(8,[8,9]++rg 27 16)] []),(105,hh [(0,[4]),(1,rg 6 4),(3,[11]),(5,[15]),(6,[5]++rg 16 8),(8,[25])] [(4,[4,5]++rg 14 12)] []),(106,hh [(0,[0,4]),(1,[1]++rg 5 6)] [] []),(107,hh [(0,[6]),(1,[0,1,2]++rg 7 8)] [] []),(108,hh [(0,[1,4]),(1,[0,5,6,7,8])] [] []),(109,hh [(0,[0,4]),(1,[1]++rg 5 5)] [] []),(110,hh [(0,[0]),(1,rg 3 11)] [] []),(116,hh [(0,[0,1,4])] [] []),(118,hh [(0,[1,4]),(1,[0]++rg 5 16)] [] []),(119,hh [(0,[3,8]),(1,[2]++rg 13 5),(5,[22,23]),(6,rg 24 14),(7,[39,40,41]),(8,[43])] [(4,[12]++rg 21 21++[43])] [(7,[2]),(9,[1])]),(121,{drop:=zDX [(0,[0,2,8,9,11]),(1,[1]++rg 17 7),(2,[25,26]),(3,[13,27,28]),(4,rg 30 5),(5,[35]),(8,[40,41,42]),(9,[14,15]++rg 43 4),(10,[48]),(11,[49]),(12,rg 50 5),(13,[57,58])],loopDrop:=zDX [(7,[8,9,11,14,15]++rg 39 11)],take:=zDX [(3,[5])],frzs:=zDX [(12,[6])],frz:=true}),(122,{drop:=zDX [(0,[4]),(1,[8,9,10]),(2,[11]),(4,[14,15]),(5,[16,17,18]),(6,[20,21]),(7,rg 22 4),(8,[26,27,28]),(9,rg 30 4),(10,[34,35]),(11,[36,37,38]),(12,[5])],loopDrop:=zDX [(5,[7]++rg 16 20)],take:=zDX [(3,[1]),(9,[4])],mode:=[2,0]}),(123,{drop:=zDX [(0,[2]),(1,[3]),(3,[0,5,6])],intr:=1}),(124,hh [(0,[0,3]),(1,[1,4,5,6])] [] []),(127,{drop:=zDX [(0,[6]),(1,[0,1,2]++rg 7 7)],mode:=[1,0,0]}),(128,{drop:=zDX [(0,[4]),(1,[0,1]++rg 5 5)],mode:=[1,0]}),(129,{drop:=zDX [(0,[4]),(1,[0,1]++rg 5 6)],mode:=[1,0]}),(130,{drop:=zDX [(0,[6]),(1,rg 8 6),(2,[14,15]),(4,[18,19]),(5,[1,2]++rg 20 6),(6,[7]++rg 27 5)],mode:=[1,0,0]}),(131,hh [(0,[4]),(1,[6]),(3,[10]),(4,rg 11 5),(5,[5,17]),(6,[18])] [(2,[4,5]++rg 9 10)] [(5,[1])]),(132,hh [(2,[19,20,21]),(3,[22]),(4,[0,1,2]++rg 24 4),(5,[28]),(6,[0,1,2]++rg 30 4),(7,[34]),(8,rg 36 4),(9,[40,41]),(10,rg 42 7),(11,[49]),(12,rg 51 4),(13,rg 55 6),(15,[12]++rg 61 7),(16,[69,70,71]),(17,rg 73 14),(18,[1,11]++rg 88 5),(19,[13,93]),(20,[11]++rg 94 8),(21,[15,102]),(22,rg 103 6),(23,[10,109,110]),(24,[111,112]),(25,[16,18,114,115,116]),(26,[1]++rg 117 5),(27,[14,122,123]),(28,[17,18,124,125,126]),(29,[2]++rg 127 6),(30,[14,133])] [(2,rg 10 124)] [(19,[1]),(21,[1]),(30,[1])]),(133,{drop:=zDX [(0,[2]),(1,[0,3,4,5]),(2,[0,6,7])],intr:=9}),(134,{drop:=zDX [(0,[1,10,11]),(1,[20]),(5,[25,26]),(6,[15]++rg 27 8),(7,rg 35 12),(8,[47]),(12,[48]),(13,[2,49,50,51]),(14,[53])],loopDrop:=zDX [(4,[15,16]++rg 24 24)],take:=zDX [(7,[4])],ices:=zDX [(0,[13,12])]}),(135,hh [(0,[0,2,6]),(1,[1,7,8,9])] [] []),(136,hh [(0,[4]),(1,[6]),(3,[10]),(4,rg 11 5),(5,[5,17]),(6,[18])] [(2,[4,5]++rg 9 10)] [(5,[1])]),(137,{drop:=zDX [(0,[5]),(3,[12,13,14]),(4,rg 15 6),(5,[1,6,7]++rg 22 6),(7,[29]),(8,[1,30,31,32])],loopDrop:=zDX [(2,[5,6,7]++rg 11 19)],take:=zDX [(6,[1]),(8,[2])],mode:=[2,0,0]}),(139,hh [(0,[0,2,3]),(1,[12,13]),(2,[14]),(3,[4,16]),(4,[17,18,19]),(7,[26,27]),(8,rg 28 6),(9,[34]),(12,[40,41,42]),(13,rg 43 6),(14,[49,50]),(15,[8]++rg 52 12),(16,[64]),(17,[65,66]),(19,[70]),(20,[71,72]),(22,[76]),(23,rg 77 12),(24,[11]++rg 90 14),(25,[104]),(26,[105])] [(6,[7]++rg 25 10),(11,[8,9]++rg 39 26),(18,[10,11]++rg 69 37),(21,[11]++rg 75 30)] [(3,[2]),(24,[9]),(27,[1])]),(140,hh [(0,[6]),(1,[0,1,2]++rg 7 10)] [] []),(150,hh [(0,[0,2]),(1,rg 7 5),(3,rg 13 4),(8,[23,24]),(9,[25,26,27]),(11,[29,30,31]),(12,[32])] [(7,[2,5]++rg 22 11)] []),(151,hh [(0,[0,2]),(3,[12,13,14]),(4,[3]++rg 15 5),(6,[21]),(9,[27,28,29]),(10,[5]++rg 30 10),(12,[41])] [(2,[2,3,4]++rg 11 11),(8,[2,5,6]++rg 26 16)] []),(152,hh [(0,[1,4]),(1,[0,5,6,7,8])] [] []),(153,hh [(0,[3]),(1,[0,1,4,5,6,7])] [] []),(154,hh [(0,[2]),(1,[0]++rg 3 11)] [] []),(155,hh [(0,[2]),(1,[4,5,6]),(2,[7]),(3,[9,10]),(4,rg 11 9)] [(2,[2]++rg 7 14)] []),(156,hh [(0,[4]),(1,[0,1,5,6,7,8])] [] []),(157,hh [(0,[0,4]),(1,[1,2]++rg 5 12)] [] []),(158,hh [(0,[4]),(1,rg 6 4),(3,[11]),(5,[15]),(6,[5]++rg 16 8),(8,[25])] [(4,[4,5]++rg 14 12)] []),(159,hh [(0,[4]),(1,[0,1,5,6,7,8])] [] []),(160,hh [(0,[0,3]),(1,[1]++rg 4 24)] [] []),(161,hh [(0,[1,4]),(1,[6]),(3,[10]),(4,rg 11 5),(5,[5,17]),(6,[18])] [(2,[4,5]++rg 9 10)] [(5,[1])]),(164,hh [(0,[1,4]),(1,[0,5,6,7,8])] [] []),(165,hh [(0,[4]),(3,[11,12]),(4,[6,13,14,15]),(5,[16]),(6,[0,17])] [(2,[6]++rg 10 7)] [(6,[1])]),(168,hh [(0,[3]),(1,[0,1,4,5,6,7])] [] []),(169,hh [(0,rg 5 4),(2,[12]),(3,[4]++rg 13 14),(4,[28])] [(1,[4]++rg 11 18)] []),(170,hh [(0,[0,4]),(1,[1]++rg 5 6)] [] []),(171,hh [(0,[1,4]),(1,[6,7,8]),(2,rg 9 13),(3,[0]++rg 22 7),(4,rg 29 6)] [] [(4,[3])]),(173,{drop:=zDX [(0,[0,5]),(1,[1,2,3,6,7,8,9])],frz:=true}),(174,hh [(0,[4]),(1,[6]),(3,[10]),(4,rg 11 5),(5,[5,17]),(6,[18])] [(2,[4,5]++rg 9 10)] [(5,[1])]),(175,{drop:=zDX [(0,[2]),(1,rg 4 9),(2,rg 14 11),(3,rg 25 5),(4,rg 30 5),(5,rg 36 14),(6,[0]++rg 50 7),(7,[3]++rg 57 6)],mode:=[1]}),(176,hh [(0,[8,9]),(1,[10,11]),(2,[13,14]),(3,[15]),(4,rg 16 14),(5,[31,32]),(6,rg 33 16)] [(1,[7]++rg 10 39),(4,rg 16 33)] []),(177,hh [(0,[11]),(2,[1,2,12,13,14]),(3,[15,16,17]),(4,[18]),(5,[20,21]),(6,rg 22 5),(7,[8,27,28]),(8,[29]),(9,[31,32]),(10,rg 33 18),(11,rg 51 5)] [(4,rg 18 9),(8,rg 29 27)] []),(178,hh [(0,[2,11,12,13]),(1,[14]),(2,[16,17]),(3,[18,19]),(4,rg 20 6),(5,rg 26 7),(6,[34,35]),(7,rg 36 5),(8,[41,42]),(9,[44,45,46]),(10,[10]++rg 47 18)] [(5,[10]++rg 26 39)] []),(179,hh [(0,[6,7]),(1,[2,13,14,15]),(3,rg 16 5),(4,rg 21 5),(5,[1]++rg 26 5),(6,[31]),(7,[8,33]),(8,[35,36,37]),(9,[38,39,40]),(10,[41,42,43]),(11,[0,10,12]++rg 44 5),(13,[11,50]),(14,[52]),(15,[11,53]),(16,[49,55]),(17,[11,56])] [] [(13,[1]),(15,[1]),(17,[1])]),(180,hh [(0,[1,8]),(1,[2,9,10]),(2,[11,12]),(3,rg 14 14),(4,[28,29]),(5,[30,31])] [(2,rg 11 21)] [(0,[1])]),(181,hh [(0,[6]),(1,[11,12]),(3,[13]),(4,[15,16]),(5,rg 17 15),(6,[33,34]),(7,[35,36]),(9,[38,39,40]),(11,rg 42 16),(12,[58,59,60]),(13,[62,63]),(14,[64]),(15,[66,67]),(16,rg 68 10),(17,rg 79 16),(18,[95,96,97]),(19,[99,100]),(20,[101,102]),(21,[104,105]),(22,rg 106 10),(23,rg 117 16)] [(3,[6,9,10]++rg 13 120),(5,rg 17 18),(14,rg 64 31),(20,rg 101 32)] []),(182,hh [(0,[4]),(1,[0,1]++rg 5 12)] [] []),(183,hh [(0,[8]),(1,[3]++rg 11 14),(2,[2]++rg 25 4),(3,rg 29 14),(4,[44,45]),(5,rg 46 13),(6,[60,61]),(7,[62,63]),(8,rg 65 14),(9,[79,80]),(10,[81,82]),(11,[9,83])] [(3,rg 29 54),(5,rg 46 16)] [(11,[1])]),(184,hh [(0,[8,9]),(1,[3]++rg 12 14),(2,[2]++rg 26 4),(3,rg 30 13),(4,[44,45]),(5,rg 46 14),(6,[61,62]),(7,[63,64]),(8,[0,1]++rg 66 14),(9,[11,80]),(10,rg 81 14),(11,[95,96]),(12,[97,98]),(13,rg 99 13),(14,[113,114]),(15,rg 115 14),(16,[130,131]),(17,[132,133]),(18,rg 135 14),(19,[149,150]),(20,[151,152]),(21,[0,1]++rg 153 14),(22,[11,167])] [(3,rg 30 16),(5,rg 46 17),(13,rg 99 54),(15,rg 115 17)] [(9,[1]),(22,[1])]),(185,{drop:=zDX [(1,[3]),(2,[5,6]),(4,[7]),(5,[9,10]),(6,[11,12]),(7,[0]++rg 13 6)],intr:=9}),(186,{drop:=zDX [(1,[3]),(2,[5,6]),(4,[7]),(5,[9,10]),(6,[11,12]),(7,[13]),(8,[15,16]),(9,[17,18]),(10,[0]++rg 19 6)],intr:=9}),(187,{drop:=zDX [(0,rg 11 7),(1,[19,20]),(2,[0,2,3,22,23]),(5,[28,29]),(6,rg 30 6),(7,rg 37 11),(8,[48])],loopDrop:=zDX [(4,[10]++rg 27 22)],mode:=[0,0,1,1,0,0,1]}),(188,hh [(0,[0,4]),(1,[1,2]++rg 5 5)] [] []),(189,hh [(0,[0,4]),(1,[1,2]++rg 5 9)] [] []),(195,hh [(0,[1,4]),(1,[0,5,6,7,8])] [] []),(196,hh [(0,[0,3]),(1,[1]++rg 4 10)] [] []),(197,hh [(0,[0,2]),(1,rg 3 5)] [] []),(198,hh [(0,[4]),(1,[0,1,5,6,7,8])] [] []),(199,hh [(0,[0,3]),(1,[1]++rg 4 5)] [] []),(200,hh [(0,[4]),(1,[0,1,5,6,7,8])] [] []),(201,hh [(0,[3]),(1,[0,1,4,5,6,7])] [] []),(202,hh [(0,[4]),(1,[6]),(3,[10]),(4,rg 11 5),(5,[5,17]),(6,[18])] [(2,[4,5]++rg 9 10)] [(5,[1])]),(203,hh [(0,[4]),(1,[6]),(3,[10]),(4,rg 11 5),(5,[5,17]),(6,[18])] [(2,[4,5]++rg 9 10)] [(5,[1])]),(204,hh [(0,[0,3]),(1,[1,4,5,6,7])] [] []),(205,hh [(0,[1,10]),(1,[11,12,13]),(2,[14,15]),(3,rg 17 19),(4,[37,38]),(5,rg 39 13),(6,[8]++rg 53 22),(7,[9,75])] [(1,[9]++rg 11 65)] [(0,[1]),(7,[1])]),(206,hh [(0,[2]),(1,[0,3,4,5,6])] [] []),(207,hh [(0,[2]),(1,rg 3 9),(2,rg 12 9),(3,rg 21 9),(4,[0,30,31,32])] [] []),(208,hh [(0,[6]),(1,[0,1,2]++rg 7 8)] [] []),(209,hh [(0,[10]),(1,rg 11 8),(2,[3]++rg 19 8),(3,[0,1,4]++rg 27 8),(4,[2,35])] [] [(4,[1])]),(210,hh [(0,[2]),(1,[0,3,4,5])] [] []),(221,hh [(0,[0,3]),(1,[1,4,5,6,7])] [] []),(222,hh [(0,[4]),(1,[6]),(3,[10]),(4,rg 11 5),(5,[5,17]),(6,[18])] [(2,[4,5]++rg 9 10)] [(5,[1])]),(223,hh [(0,[4]),(1,[6]),(3,[10]),(4,rg 11 5),(5,[5,17]),(6,[18])] [(2,[4,5]++rg 9 10)] [(5,[1])]),(224,hh [(0,[8,9]),(1,[0]++rg 10 8),(2,[3]++rg 19 5),(3,[1,2,24,25]),(4,[1,2,26,27])] [] [(3,[2,3]),(4,[2,3])])] f
end Go.Eng
namespace Go.Eng
open Go
abbrev Al:=PV->Value->Prop
def zCp:Al:=fun _ _=>False
def zEw(w:World)(b:Nat)(c:Array Value):Prop:=∃ e,w.heap[b]? = some (.cells c e (0,0))
def zKe(w:World)(b:Nat)(c:Array Value):Prop:=∃ e fz,w.heap[b]? = some (.cells c e fz)
def seg(c:Array Value)(o n:Nat):List Value:=(c.toList.drop o).take n
def zCu:Value->Bool
 |.agg _=>true|_=>false
def flat(us:List Value):List Value:=us.flatMap fun u=>u.cells.toList
mutual
def Rep(w:World)(Φ:Nat->Prop)(A:Al):PV->Value->LN->Prop
 |.bad,_,L=>L=[]|.und,v,L=>v=undef/\L=[]|.int k n,v,L=>v = .int k n/\L=[]|.bool b,v,L=>v = .bool b/\L=[]|.nilp,v,L=>v = .pointer none/\L=[]|.nilf,v,L=>v = .nilFunc/\L=[]|.nilm,v,L=>v = .map none/\L=[]|.nn,v,L=>L=[]/\∃ a n,v = .slice (some a) 0 n|.nils _,v,L=>v = .slice none 0 0/\L=[]|.agg cs,v,L=>∃ vs:Array Value,v = .agg vs/\zBa w Φ A cs vs.toList L|.tup cs,v,L=>∃ vs:Array Value,v = .tuple vs/\zBa w Φ A cs vs.toList L
 | .sl xs,v,L=>L=[]/\((xs=[]/\∃ a n,v = .slice a 0 n/\(a=none->n=0))\/∃ a n c us sz,v = .slice (some a) xs.length n/\a.spot=none/\xs.length<=n/\Φ a.block/\zKe w a.block c /\
   (∀ x∈xs,x.cells.length=sz)/\((∀ u∈us,u.cells.size=sz)/\us.map zCu=xs.map PV.isAgg)/\seg c a.off (xs.length*sz)=flat us/\zBa w Φ zCp xs us [])
 | .own sz xs,v,L=>(xs=[]/\L=[]/\v = .slice none 0 0)\/∃ a n c us L',L=a.block::L'/\v = .slice (some a) xs.length n/\a.spot=none/\xs.length<=n/\zEw w a.block c/\a.off+n*sz<=c.size /\
   (∀ x∈xs,x.cells.length=sz)/\((∀ u∈us,u.cells.size=sz)/\us.map zCu=xs.map PV.isAgg)/\seg c a.off (xs.length*sz)=flat us/\zBa w Φ zCp xs us L'
 |.ref q,v,L=>L=[]/\∃ a c u,v = .pointer (some a)/\a.spot=none/\Φ a.block/\zKe w a.block c/\seg c a.off q.cells.length=u.cells.toList/\(u.cells.size=q.cells.length/\zCu u=q.isAgg)/\Rep w Φ A q u []|.box q,v,L=>∃ a c u L',L=a.block::L'/\v = .pointer (some a)/\a.spot=none/\zEw w a.block c/\seg c a.off q.cells.length=u.cells.toList/\(u.cells.size=q.cells.length/\zCu u=q.isAgg)/\Rep w Φ A q u L'|.map es,v,L=>L=[]/\∃ b ents,v = .map (some b)/\Φ b/\w.heap[b]? = some (.map ents es.length)/\zD6 w Φ es ents.toList 0|.omap es,v,L=>∃ b ents,L=[b]/\v = .map (some b)/\w.heap[b]? = some (.map ents es.length)/\zD6 w Φ es ents.toList 0|.func f first caps,v,L=>L=[]/\∃ fs cs:Array Value,v = .func (.func f) fs cs/\zBa w Φ A first fs.toList []/\zBa w Φ A caps cs.toList []
 |.addr r pre i c sh,v,L=>L=[]/\A (.addr r pre i c sh) v|.bor r pre z lo n,v,L=>L=[]/\A (.bor r pre z lo n) v|.bsl r pre i c sz ag n,v,L=>L=[]/\A (.bsl r pre i c sz ag n) v|.bmap r pre,v,L=>L=[]/\A (.bmap r pre) v|.lock q,v,L=>Rep w Φ A q v L|.yld h,v,L=>L=[]/\v = .func (.yield h) #[] #[]|.log xs k,v,L=>L=[]/\A (.log xs k) v
def zBa(w:World)(Φ:Nat->Prop)(A:Al):List PV->List Value->LN->Prop
 |[],vs,L=>vs=[]/\L=[]|p::ps,vs,L=>∃ v vs' L1 L2,vs=v::vs'/\L=L1++L2/\Rep w Φ A p v L1/\zBa w Φ A ps vs' L2
def zD6(w:World)(Φ:Nat->Prop):List (PV×PV)->List MapEntry->Nat->Prop
 |[],es,_=>es=[]|(k,p)::ps,es,i=>∃ e es',es=e::es'/\e.born=i/\Rep w Φ zCp k e.key []/\Rep w Φ zCp p e.val []/\zD6 w Φ ps es' (i+1)
end
section
variable {w w':World} {Φ Φ':Nat->Prop}
theorem zIj{f:PV->PV}(hf:∀ p,(f p).isAgg=p.isAgg)(p:PV):(p.mapW f).cells.length=p.cells.length:=by
 have one:∀ p:PV,p.isAgg=false->p.cells.length=1:=by intro p h;cases p<;>simp_all[PV.isAgg,PV.cells]
 have len:∀ ps:List PV,(zCB f ps).length=ps.length:=by
  intro ps;induction ps with
  |nil=>rfl|cons p ps ih=>simp[zCB,ih]
 cases p with
 |agg cs=>simp[PV.mapW,PV.cells,len]|addr r pre i c sh=>rw[PV.mapW,one _ (by rw[hf];rfl),one _ rfl]|bor r pre z lo n=>rw[PV.mapW,one _ (by rw[hf];rfl),one _ rfl]|bsl r pre i c z ag n=>rw[PV.mapW,one _ (by rw[hf];rfl),one _ rfl]|bmap r pre=>rw[PV.mapW,one _ (by rw[hf];rfl),one _ rfl]|log xs k=>rw[PV.mapW,one _ (by rw[hf];rfl),one _ rfl]|_=>rfl
theorem zGp{f:PV->PV}(hf:∀ p,(f p).isAgg=p.isAgg)(p:PV):(p.mapW f).isAgg=p.isAgg:=by
 cases p<;>first|rfl|exact hf _
mutual
theorem Rep.map{A A':Al}{f:PV->PV}(hf:∀ p,(f p).isAgg=p.isAgg)(hΦ:∀ b,Φ b->Φ' b/\w'.heap[b]? = w.heap[b]?)(hA:∀ a v,a.isWay=true->A a v->Rep w' Φ' A' (f a) v []) :
  ∀ (p:PV) (v:Value) (L:LN),(∀ b∈L,w'.heap[b]? = w.heap[b]?)->Rep w Φ A p v L->Rep w' Φ' A' (p.mapW f) v L
 |.bad,_,_,_,h=>by simpa[Rep,PV.mapW] using h|.und,_,_,_,h=>by simpa[Rep,PV.mapW] using h|.int ..,_,_,_,h=>by simpa[Rep,PV.mapW] using h|.bool _,_,_,_,h=>by simpa[Rep,PV.mapW] using h|.nilp,_,_,_,h=>by simpa[Rep,PV.mapW] using h|.nilf,_,_,_,h=>by simpa[Rep,PV.mapW] using h|.nilm,_,_,_,h=>by simpa[Rep,PV.mapW] using h|.nn,_,_,_,h=>by simpa[Rep,PV.mapW] using h|.nils _,_,_,_,h=>by simpa[Rep,PV.mapW] using h|.agg cs,v,L,hw,h=>by
  obtain⟨vs,rfl,h⟩:=h;exact⟨vs,rfl,zBa.map hf hΦ hA cs _ L hw h⟩
 |.tup cs,v,L,hw,h=>by
  obtain⟨vs,rfl,h⟩:=h;exact⟨vs,rfl,zBa.map hf hΦ hA cs _ L hw h⟩
 |.sl xs,v,L,hw,h=>by
  obtain⟨rfl,h|⟨a,n,c,us,sz,h1,h2,h3,h4,⟨e,fz,h5⟩,h6,h7,h8,h9⟩⟩:=h
  ·exact⟨rfl,.inl h⟩
  ·have:=zBa.same (A:=zCp) hΦ xs us [] (by simp) h9;exact⟨rfl,.inr ⟨a,n,c,us,sz,h1,h2,h3,(hΦ _ h4).1,⟨e,fz,(hΦ _ h4).2.trans h5⟩,h6,h7,h8,this⟩⟩
 |.own sz xs,v,L,hw,h=>by
  obtain h|⟨a,n,c,us,L',rfl,h1,h2,h3,⟨e,h5⟩,h6,h7,h8,h9,jZ⟩:=h
  ·exact .inl h
  ·have:=zBa.same (A:=zCp) hΦ xs us L' (fun b hb=>hw b (by simp[hb])) jZ;exact .inr ⟨a,n,c,us,L',rfl,h1,h2,h3,⟨e,(hw _ (by simp)).trans h5⟩,h6,h7,h8,h9,this⟩
 |.ref q,v,L,hw,h=>by
  obtain⟨rfl,a,c,u,h1,h2,h3,⟨e,fz,h4⟩,h5,h6,h7⟩:=h;have hc:(q.mapW f).cells.length=q.cells.length:=zIj hf q;exact⟨rfl,a,c,u,h1,h2,(hΦ _ h3).1,⟨e,fz,(hΦ _ h3).2.trans h4⟩,by rw[hc];exact h5,by rw[hc,zGp hf];exact h6,Rep.map hf hΦ hA q u [] (by simp) h7⟩
 |.box q,v,L,hw,h=>by
  obtain⟨a,c,u,L',rfl,h1,h2,⟨e,h4⟩,h5,h6,h7⟩:=h;have hc:(q.mapW f).cells.length=q.cells.length:=zIj hf q;exact⟨a,c,u,L',rfl,h1,h2,⟨e,(hw _ (by simp)).trans h4⟩,by rw[hc];exact h5,by rw[hc,zGp hf];exact h6,Rep.map hf hΦ hA q u L' (fun b hb=>hw b (by simp[hb])) h7⟩
 |.map es,v,L,hw,h=>by
  obtain⟨rfl,b,ents,h1,h2,h3,h4⟩:=h;exact⟨rfl,b,ents,h1,(hΦ _ h2).1,(hΦ _ h2).2.trans h3,zD6.same hΦ es _ _ h4⟩
 |.omap es,v,L,hw,h=>by
  obtain⟨b,ents,rfl,h1,h3,h4⟩:=h;exact⟨b,ents,rfl,h1,(hw _ (by simp)).trans h3,zD6.same hΦ es _ _ h4⟩
 |.func g a b,v,L,hw,h=>by
  obtain⟨rfl,fs,cs,h1,h2,h3⟩:=h;exact⟨rfl,fs,cs,h1,zBa.map hf hΦ hA a _ [] (by simp) h2,zBa.map hf hΦ hA b _ [] (by simp) h3⟩
 |.addr ..,v,L,hw,h=>by obtain⟨rfl,h⟩:=h;exact hA _ _ rfl h
 |.bor ..,v,L,hw,h=>by obtain⟨rfl,h⟩:=h;exact hA _ _ rfl h
 |.bsl ..,v,L,hw,h=>by obtain⟨rfl,h⟩:=h;exact hA _ _ rfl h
 |.bmap ..,v,L,hw,h=>by obtain⟨rfl,h⟩:=h;exact hA _ _ rfl h
 |.lock q,v,L,hw,h=>Rep.map hf hΦ hA q v L hw h|.yld _,v,L,hw,h=>h|.log ..,v,L,hw,h=>by obtain⟨rfl,h⟩:=h;exact hA _ _ rfl h
theorem zBa.map{A A':Al}{f:PV->PV}(hf:∀ p,(f p).isAgg=p.isAgg)(hΦ:∀ b,Φ b->Φ' b/\w'.heap[b]? = w.heap[b]?)(hA:∀ a v,a.isWay=true->A a v->Rep w' Φ' A' (f a) v []) :
  ∀ (ps:List PV) (vs:List Value) (L:LN),(∀ b∈L,w'.heap[b]? = w.heap[b]?)->zBa w Φ A ps vs L->zBa w' Φ' A' (zCB f ps) vs L
 |[],_,_,_,h=>h|p::ps,vs,L,hw,h=>by
  obtain⟨v,vs',L1,L2,rfl,rfl,h1,h2⟩:=h;exact⟨v,vs',L1,L2,rfl,rfl,Rep.map hf hΦ hA p v L1 (fun b hb=>hw b (by simp[hb])) h1,zBa.map hf hΦ hA ps vs' L2 (fun b hb=>hw b (by simp[hb])) h2⟩
theorem Rep.same{A:Al}(hΦ:∀ b,Φ b->Φ' b/\w'.heap[b]? = w.heap[b]?) :
  ∀ (p:PV) (v:Value) (L:LN),(∀ b∈L,w'.heap[b]? = w.heap[b]?)->Rep w Φ zCp p v L->Rep w' Φ' A p v L
 |.bad,_,_,_,h=>h|.und,_,_,_,h=>h|.int ..,_,_,_,h=>h|.bool _,_,_,_,h=>h|.nilp,_,_,_,h=>h|.nilf,_,_,_,h=>h|.nilm,_,_,_,h=>h|.nn,_,_,_,h=>h|.nils _,_,_,_,h=>h|.agg cs,v,L,hw,h=>by
  obtain⟨vs,rfl,h⟩:=h;exact⟨vs,rfl,zBa.same hΦ cs _ L hw h⟩
 |.tup cs,v,L,hw,h=>by
  obtain⟨vs,rfl,h⟩:=h;exact⟨vs,rfl,zBa.same hΦ cs _ L hw h⟩
 |.sl xs,v,L,hw,h=>by
  obtain⟨rfl,h|⟨a,n,c,us,sz,h1,h2,h3,h4,⟨e,fz,h5⟩,h6,h7,h8,h9⟩⟩:=h
  ·exact⟨rfl,.inl h⟩
  ·have:=zBa.same (A:=zCp) hΦ xs us [] (by simp) h9;exact⟨rfl,.inr ⟨a,n,c,us,sz,h1,h2,h3,(hΦ _ h4).1,⟨e,fz,(hΦ _ h4).2.trans h5⟩,h6,h7,h8,this⟩⟩
 |.own sz xs,v,L,hw,h=>by
  obtain h|⟨a,n,c,us,L',rfl,h1,h2,h3,⟨e,h5⟩,h6,h7,h8,h9,jZ⟩:=h
  ·exact .inl h
  ·have:=zBa.same (A:=zCp) hΦ xs us L' (fun b hb=>hw b (by simp[hb])) jZ;exact .inr ⟨a,n,c,us,L',rfl,h1,h2,h3,⟨e,(hw _ (by simp)).trans h5⟩,h6,h7,h8,h9,this⟩
 |.ref q,v,L,hw,h=>by
  obtain⟨rfl,a,c,u,h1,h2,h3,⟨e,fz,h4⟩,h5,h6,h7⟩:=h;exact⟨rfl,a,c,u,h1,h2,(hΦ _ h3).1,⟨e,fz,(hΦ _ h3).2.trans h4⟩,h5,h6,Rep.same hΦ q u [] (by simp) h7⟩
 |.box q,v,L,hw,h=>by
  obtain⟨a,c,u,L',rfl,h1,h2,⟨e,h4⟩,h5,h6,h7⟩:=h;exact⟨a,c,u,L',rfl,h1,h2,⟨e,(hw _ (by simp)).trans h4⟩,h5,h6,Rep.same hΦ q u L' (fun b hb=>hw b (by simp[hb])) h7⟩
 |.map es,v,L,hw,h=>by
  obtain⟨rfl,b,ents,h1,h2,h3,h4⟩:=h;exact⟨rfl,b,ents,h1,(hΦ _ h2).1,(hΦ _ h2).2.trans h3,zD6.same hΦ es _ _ h4⟩
 |.omap es,v,L,hw,h=>by
  obtain⟨b,ents,rfl,h1,h3,h4⟩:=h;exact⟨b,ents,rfl,h1,(hw _ (by simp)).trans h3,zD6.same hΦ es _ _ h4⟩
 |.func g a b,v,L,hw,h=>by
  obtain⟨rfl,fs,cs,h1,h2,h3⟩:=h;exact⟨rfl,fs,cs,h1,zBa.same hΦ a _ [] (by simp) h2,zBa.same hΦ b _ [] (by simp) h3⟩
 |.addr ..,v,L,hw,h=>h.2.elim|.bor ..,v,L,hw,h=>h.2.elim|.bsl ..,v,L,hw,h=>h.2.elim|.bmap ..,v,L,hw,h=>h.2.elim|.lock q,v,L,hw,h=>Rep.same hΦ q v L hw h|.yld _,v,L,hw,h=>h|.log ..,v,L,hw,h=>h.2.elim
theorem zBa.same{A:Al}(hΦ:∀ b,Φ b->Φ' b/\w'.heap[b]? = w.heap[b]?) :
  ∀ (ps:List PV) (vs:List Value) (L:LN),(∀ b∈L,w'.heap[b]? = w.heap[b]?)->zBa w Φ zCp ps vs L->zBa w' Φ' A ps vs L
 |[],_,_,_,h=>h|p::ps,vs,L,hw,h=>by
  obtain⟨v,vs',L1,L2,rfl,rfl,h1,h2⟩:=h;exact⟨v,vs',L1,L2,rfl,rfl,Rep.same hΦ p v L1 (fun b hb=>hw b (by simp[hb])) h1,zBa.same hΦ ps vs' L2 (fun b hb=>hw b (by simp[hb])) h2⟩
theorem zD6.same(hΦ:∀ b,Φ b->Φ' b/\w'.heap[b]? = w.heap[b]?):∀ (ps:List (PV×PV)) (es:List MapEntry) (i:Nat),zD6 w Φ ps es i->zD6 w' Φ' ps es i
 |[],_,_,h=>h|(k,p)::ps,es,i,h=>by
  obtain⟨e,es',rfl,h0,h1,h2,h3⟩:=h;exact⟨e,es',rfl,h0,Rep.same hΦ k _ [] (by simp) h1,Rep.same hΦ p _ [] (by simp) h2,zD6.same hΦ ps es' (i+1) h3⟩
end
end
mutual
theorem zBq:∀ p:PV,p.mapW (fun x=>x)=p
 |.agg cs=>by rw[PV.mapW,zGt]|.tup cs=>by rw[PV.mapW,zGt]|.func g a b=>by rw[PV.mapW,zGt,zGt]|.ref q=>by rw[PV.mapW,zBq]|.box q=>by rw[PV.mapW,zBq]|.lock q=>by rw[PV.mapW,zBq]|.addr .. => rfl|.bor .. => rfl|.bsl .. => rfl|.bmap .. => rfl|.yld .. => rfl|.log .. => rfl|.bad=>rfl|.und=>rfl|.int .. => rfl|.bool .. => rfl|.nilp=>rfl|.nilf=>rfl|.nilm=>rfl|.nn=>rfl|.nils _=>rfl|.sl _=>rfl|.own .. => rfl|.map _=>rfl|.omap _=>rfl
theorem zGt:∀ ps:List PV,zCB (fun x=>x) ps=ps
 |[]=>rfl|p::ps=>by rw[zCB,zBq,zGt]
end
def zDq(w w':World)(Φ Φ':Nat->Prop):Prop:=∀ b,Φ b->Φ' b/\w'.heap[b]? = w.heap[b]?
theorem zDb{w:World}{Φ:Nat->Prop}{A:Al}{a:PV}{v:Value}(hw:a.isWay=true)(h:A a v):Rep w Φ A a v []:=by
 cases a<;>first|exact⟨rfl,h⟩|exact absurd hw (by simp[PV.isWay])
section
variable {w w':World} {Φ Φ':Nat->Prop} {A A':Al}
theorem Rep.mono(hΦ:zDq w w' Φ Φ')(hA:∀ a v,a.isWay=true->A a v->A' a v){p:PV}{v:Value}{L:LN}(hw:∀ b∈L,w'.heap[b]? = w.heap[b]?)(h:Rep w Φ A p v L):Rep w' Φ' A' p v L:=by
 have:=Rep.map (f:=fun x=>x) (fun _=>rfl) hΦ (fun a v hw h=>zDb hw (hA a v hw h)) p v L hw h;rwa[zBq] at this
theorem zBa.mono(hΦ:zDq w w' Φ Φ')(hA:∀ a v,a.isWay=true->A a v->A' a v){p:List PV}{v:List Value}{L:LN}(hw:∀ b∈L,w'.heap[b]? = w.heap[b]?)(h:zBa w Φ A p v L):zBa w' Φ' A' p v L:=by
 have:=zBa.map (f:=fun x=>x) (fun _=>rfl) hΦ (fun a v hw h=>zDb hw (hA a v hw h)) p v L hw h;rwa[zGt] at this
theorem zDq.refl:zDq w w Φ Φ:=fun _ h=>⟨h,rfl⟩
theorem zBa.split:∀ {ps:List PV} {vs:List Value} {L:LN},zBa w Φ A ps vs L->∀ {i:Nat} {p:PV},ps[i]? = some p ->
  ∃ v La Li Lb,vs[i]? = some v/\L=La++Li++Lb/\Rep w Φ A p v Li /\
   (∀ w' Φ' (A':Al) p' Li',(∀ a v,a.isWay=true->A a v->A' a v)->zDq w w' Φ Φ'->(∀ b∈La++Lb,w'.heap[b]? = w.heap[b]?)->Rep w' Φ' A' p' v Li'->zBa w' Φ' A' (ps.set i p') vs (La++Li'++Lb)) /\
   ∀ j p2,j≠i->ps[j]? = some p2->∃ v2 L2,vs[j]? = some v2/\Rep w Φ A p2 v2 L2/\∀ b∈L2,b∈La++Lb
 |[],_,_,_,_,_,hp=>by simp at hp
 | q :: ps,vs,L,h,0,p,hp=>by
  obtain⟨v,vs',L1,L2,rfl,rfl,h1,h2⟩:=h;simp at hp;subst hp;refine⟨v,[],L1,L2,rfl,by simp,h1,?_,?_⟩
  ·intro w' Φ' A' p' Li' hA hs hb hr;exact⟨v,vs',Li',L2,rfl,by simp,hr,h2.mono hs hA (by simpa using hb)⟩
  ·intro j p2 hj qU
   cases j with
   |zero=>exact absurd rfl hj|succ j=>
    obtain⟨v2,La,Li,Lb,uE,rfl,uF,_⟩:=h2.split (i:=j) (p:=p2) (by simpa using qU);exact⟨v2,Li,by simpa using uE,uF,fun b hb=>by simp[hb]⟩
 | q :: ps,vs,L,h,i+1,p,hp=>by
  obtain⟨v,vs',L1,L2,rfl,rfl,h1,h2⟩:=h;obtain⟨u,La,Li,Lb,hu,rfl,hr,hk,ho⟩:=h2.split (i:=i) (by simpa using hp);refine⟨u,L1++La,Li,Lb,by simpa using hu,by simp,hr,?_,?_⟩
  rotate_left
  ·intro j p2 hj qU
   cases j with
   |zero=>simp at qU;subst qU;exact⟨v,L1,rfl,h1,fun b hb=>by simp[hb]⟩
   |succ j=>
    obtain⟨v2,L2,jc,jo,qC⟩:=ho j p2 (by omega) (by simpa using qU);exact⟨v2,L2,by simpa using jc,jo,fun b hb=>by have:=qC b hb;simp at this ⊢;rcases this with h|h<;>simp[h]⟩
  intro w' Φ' A' p' Li' hA hs hb jd;exact⟨v,vs',L1,La++Li'++Lb,rfl,by simp,h1.mono hs hA (fun b h=>hb b (by simp[h])),hk w' Φ' A' p' Li' hA hs (fun b h=>hb b (by rcases bg.1 h with h|h<;>simp[h])) jd⟩
theorem zBa.length:∀ {ps:List PV} {vs:List Value} {L:LN},zBa w Φ A ps vs L->vs.length=ps.length
 |[],_,_,h=>by simp[h.1]|_::_,_,_,h=>by
  obtain⟨v,vs',L1,L2,rfl,rfl,h1,h2⟩:=h;simp[h2.length]
end
def zAx(a:Addr)(k:Nat):Addr:=⟨a.block,a.off+k,none⟩
def kid(w:World):Value->PV->Nat->Nat->Option Value
 |.slice (some a) _ _,.own sz _,i,c=>w.cell? (zAx a (i*sz+c))|.pointer (some a),.box _,_,c=>w.cell? (zAx a c)|.agg vs,.agg _,_,c=>vs[c]?|_,_,_,_=>none
def zA3 (w:World):Value->PV->zA4->Option (Value×PV)
 |v,p,[]=>some (v,p)
 | v, p, (i,c)::rest =>
  match zA9 p with
  | some xs=>match xs[i]? with
   | some x=>match x.cells[c]? with
    |some q=>match kid w v p i c with
     |some u=>zA3 w u q rest|none=>none
    |none=>none
   |none=>none
  |none=>none
def zBe:Value->PV->Nat->Nat->Option Addr
 |.slice (some a) _ _,.own sz _,i,c=>some (zAx a (i*sz+c))|.pointer (some a),.box _,0,c=>some (zAx a c)|_,_,_,_=>none
def zBU(v nv:Value)(sz lo n:Nat):Prop :=
 match nv with
 |.slice none _ _=>v = .slice none 0 0/\n=0|.slice (some a) _ cap=>v = .slice (some (zAx a (lo*sz))) n (cap-lo)/\lo+n<=cap|_=>False
def zBb(w:World)(rv:Nat->Value)(E:Nat->PV):Al
 |.addr r pre i c _,v=>r<zAa/\∃ a,v = .pointer (some a)/\a.spot=none/\∀ nv np,zA3 w (rv r) (E r).unlock pre=some (nv,np)->∀ a',zBe nv np i c=some a'->a=a'
 | .bor r pre z lo n,v=>r<zAa/\(∃ a cap,v = .slice a n cap/\n<=cap/\(a=none->cap=0)/\∀ b,a=some b->b.spot=none) /\
   ∀ nv np,zA3 w (rv r) (E r).unlock pre=some (nv,np)->np.heavy0=true->∃ sz xs,np = .own sz xs/\z=sz/\zBU v nv sz lo n
 | .bsl r pre i c _ _ n,v=>r<zAa/\∃ a cap,v = .slice (some a) n cap/\n<=cap/\a.spot=none /\
   ∀ nv np,zA3 w (rv r) (E r).unlock pre=some (nv,np)->∀ a',zBe nv np i c=some a'->a=a'
 |.bmap r pre,v=>r<zAa/\(∃ b,v = .map (some b))/\∀ nv np,zA3 w (rv r) (E r).unlock pre=some (nv,np)->∀ es,np = .omap es->v=nv|_,_=>False
def child(p:PV)(i c:Nat):Option PV:=(zA9 p).bind fun xs=>(xs[i]?).bind fun x=>x.cells[c]?
theorem zCk(p:PV)(i c:Nat)(rest:zA4):zAC p ((i,c)::rest)=(child p i c).bind (zAC · rest):=by
 simp only[zAC,child];split
 ·rename_i xs h;rw[h];simp only[bd];split
  ·rename_i x h;rw[h];simp only[bd];split
   ·rename_i q h;rw[h];rfl
   ·rename_i h;rw[h];rfl
  ·rename_i h;rw[h];rfl
 ·rename_i h;rw[h];rfl
theorem zBc(w:World)(v:Value)(p:PV)(i c:Nat)(rest:zA4):zA3 w v p ((i,c)::rest)=(child p i c).bind fun q=>(kid w v p i c).bind fun u=>zA3 w u q rest:=by
 simp only[zA3,child];split
 ·rename_i xs h;rw[h];simp only[bd];split
  ·rename_i x h;rw[h];simp only[bd];split
   ·rename_i q h;rw[h];simp only[bd];split
    ·rename_i h;rw[h];rfl
    ·rename_i h;rw[h];rfl
   ·rename_i h;rw[h];rfl
  ·rename_i h;rw[h];rfl
 ·rename_i h;rw[h];rfl
def zCd(p:PV)(i c:Nat)(q':PV):Option PV:=(zA9 p).bind fun xs=>(xs[i]?).bind fun x=>zAK p (xs.set i (zAF x c [q']))
theorem zBA(f:PV->Option PV)(p:PV)(i c:Nat)(rest:zA4):zAz f p ((i,c)::rest)=(child p i c).bind fun q=>(zAz f q rest).bind fun q'=>zCd p i c q':=by
 simp only[zAz,child,zCd];split
 ·rename_i xs h;rw[h];simp only[bd];split
  ·rename_i x h;rw[h];simp only[bd];split
   ·rename_i q h;rw[h];simp only[bd];split
    ·rename_i h;rw[h];rfl
    ·rename_i h;rw[h];rfl
   ·rename_i h;rw[h];rfl
  ·rename_i h;rw[h];rfl
 ·rename_i h;rw[h];rfl
section
variable {w w':World} {Φ Φ':Nat->Prop} {A:Al}
theorem Rep.cell{p:PV}{v:Value}{L:LN}(h:Rep w Φ A p v L){c:Nat}{q:PV}(hq:p.cells[c]? = some q)(hn:zCu v=p.isAgg) :
  ∃ u La Li Lb,v.cells.toList[c]? = some u/\L=La++Li++Lb/\Rep w Φ A q u Li /\
   (∀ w' Φ' (A':Al) q' Li',(∀ a v,a.isWay=true->A a v->A' a v)->zDq w w' Φ Φ'->(∀ b∈La++Lb,w'.heap[b]? = w.heap[b]?)->q'.isAgg=q.isAgg->Rep w' Φ' A' q' u Li'->Rep w' Φ' A' (zAF p c [q']) v (La++Li'++Lb)/\(zAF p c [q']).cells.length=p.cells.length/\(zAF p c [q']).isAgg=p.isAgg) /\
   ∀ c2 q2,c2≠c->p.cells[c2]? = some q2->∃ u2 L2,v.cells.toList[c2]? = some u2/\Rep w Φ A q2 u2 L2/\∀ b∈L2,b∈La++Lb:=by
 cases hp:p.isAgg with
 | true =>
  cases p<;>simp[PV.isAgg] at hp;rename_i cs;obtain⟨vs,rfl,h⟩:=h;obtain⟨u,La,Li,Lb,hu,rfl,hr,hk,ho⟩:=h.split hq;have hc:c<cs.length:=(bf.1 hq).1;refine⟨u,La,Li,Lb,hu,rfl,hr,fun w' Φ' A' q' Li' hA hs hb _ jd=>?_,fun c2 q2 hI h2=>ho c2 q2 hI h2⟩;have he:cs.take c++[q']++cs.drop (c+1)=cs.set c q':=by
   rw[cg,if_pos hc];simp
  refine⟨⟨vs,rfl,?_⟩,?_,rfl⟩
  ·show zBa w' Φ' A' (cs.take c++[q']++cs.drop (c+1)) _ _
   rw[he];exact hk w' Φ' A' q' Li' hA hs hb jd
  ·show(cs.take c++[q']++cs.drop (c+1)).length=cs.length
   rw[he];simp
 | false =>
  have j5:p.cells=[p]:=by cases p<;>first|rfl|simp[PV.isAgg] at hp
  have hv:v.cells=#[v]:=by rw[hp] at hn;cases v<;>first|rfl|simp[zCu] at hn
  rw[j5] at hq;have hc:c=0:=by
   have:=(bf.1 hq).1;simp at this;exact this
  subst hc;simp at hq;subst hq;refine⟨v,[],L,[],by simp[hv],by simp,h,fun w' Φ' A' q' Li' hA hs hb jp jd=>?_,fun c2 q2 hI h2=>?_⟩
  rotate_left
  ·rw[j5] at h2;have:=(bf.1 h2).1;simp at this;omega
  replace jp:q'.isAgg=false:=jp.trans hp;have he:zAF p 0 [q']=q':=by cases p<;>first|rfl|simp[PV.isAgg] at hp
  rw[he];refine⟨by simpa using jd,?_,jp⟩;rw[j5];cases q'<;>first|rfl|simp[PV.isAgg] at jp
end
theorem zEH{α β:Type}{f:α->β}:∀ {xs:List α} {i:Nat} {x y:α},xs[i]? = some x->f y=f x->(xs.set i y).map f=xs.map f
 |[],_,_,_,h,_=>by simp at h|z::xs,0,x,y,h,e=>by simp at h;subst h;simp[e]|z::xs,i+1,x,y,h,e=>by
  have:=zEH (xs:=xs) (i:=i) (by simpa using h) e;simpa using this
theorem zDT{sz:Nat}:∀ {us:List Value},(∀ u∈us,u.cells.size=sz)->∀ {i c:Nat} {x u:Value},us[i]? = some x->x.cells.toList[c]? = some u->(flat us)[i*sz+c]? = some u
 |[],_,_,_,_,_,h,_=>by simp at h|y::us,hs,0,c,x,u,h,hc=>by
  simp at h;subst h;have:c<y.cells.toList.length:=(bf.1 hc).1;simp only[flat,fj,dZ,dh];rw[cn this];exact hc
 |y::us,hs,i+1,c,x,u,h,hc=>by
  have ih:=zDT (us:=us) (fun u hu=>hs u (by simp[hu])) (i:=i) (by simpa using h) hc;have hy:y.cells.toList.length=sz:=by simpa using hs y (by simp)
  simp only[flat,fj];rw[cQ (by rw[hy,cW];omega),hy];rw[show(i+1)*sz+c-sz=i*sz+c by rw[cW];omega];exact ih
theorem zCY{c:Array Value}{o n k:Nat}{u:Value}(h:(seg c o n)[k]? = some u):c[o+k]? = some u:=by
 simp only[seg,ck,cf] at h;split at h
 ·simpa using h
 ·cases h
theorem zCy{w:World}{b:Nat}{c:Array Value}(h:zKe w b c)(k:Nat):w.cell? ⟨b,k,none⟩=c[k]?:=by
 obtain⟨e,fz,h⟩:=h;simp[World.cell?,h]
theorem zEw.any{w:World}{b:Nat}{c:Array Value}(h:zEw w b c):zKe w b c:=by
 obtain⟨e,h⟩:=h;exact⟨e,_,h⟩
def zG2(A:Al):PV->Al
 |.own .. => zCp|_=>A
theorem zLi{A A':Al}{p:PV}(hA:∀ a v,a.isWay=true->A a v->A' a v):∀ a v,a.isWay=true->zG2 A p a v->zG2 A' p a v:=by
 intro a v hw h;cases p<;>first|exact hA a v hw h|exact h.elim
section
variable {w w':World} {Φ Φ':Nat->Prop} {A:Al}
theorem Rep.child {p:PV} {v:Value} {L:LN} (h:Rep w Φ A p v L) {i c:Nat} {q:PV} (hq:child p i c=some q) :
  ∃ u La Li Lb,kid w v p i c=some u/\L=La++Li++Lb/\Rep w Φ (zG2 A p) q u Li /\
   (∀ w' Φ' (A':Al) q' Li' p',(∀ a v,a.isWay=true->A a v->A' a v)->zDq w w' Φ Φ'->(∀ b∈La++Lb,w'.heap[b]? = w.heap[b]?)->q'.isAgg=q.isAgg->Rep w' Φ' (zG2 A' p) q' u Li'->zCd p i c q'=some p'->Rep w' Φ' A' p' v (La++Li'++Lb)) /\
   (∀ w',(∀ b∈La++Lb,w'.heap[b]? = w.heap[b]?)->∀ q' p',zCd p i c q'=some p'->∀ i2 c2,kid w' v p' i2 c2=kid w v p i2 c2) /\
   ∀ i2 c2 q2,(i2,c2)≠(i,c)->Eng.child p i2 c2=some q2->∃ u2 L2,kid w v p i2 c2=some u2/\Rep w Φ (zG2 A p) q2 u2 L2/\∀ b∈L2,b∈La++Lb:=by
 cases p<;>simp only[Eng.child,zA9,dM,bd] at hq<;>try cases hq
 case agg cs=>
  obtain⟨vs,rfl,h⟩:=h;have hi:i=0:=by
   cases i with
   |zero=>rfl|succ i=>simp at hq
  subst hi;simp[PV.cells] at hq;obtain⟨u,La,Li,Lb,hu,rfl,hr,hk,ho⟩:=h.split (i:=c) (p:=q) (by simpa using hq);refine⟨u,La,Li,Lb,by simpa[kid] using hu,rfl,hr,fun w' Φ' A' q' Li' p' hA hs hb _ jd hp=>?_,?_,?_⟩
  rotate_left
  ·intro w' hb q' p' hp i2 c2;simp only[zCd,zA9,zAK,zAF,bd,bJ,cy] at hp;cases hp;rfl
  ·intro i2 c2 q2 hI h2;have wC:i2=0:=by
    cases i2 with
    |zero=>rfl|succ i=>simp[Eng.child,zA9] at h2
   subst wC;simp[Eng.child,zA9,PV.cells] at h2;obtain⟨u2,L2,h3,h4,h5⟩:=ho c2 q2 (fun e=>hI (by rw[e])) h2;exact⟨u2,L2,by simpa[kid] using h3,h4,h5⟩
  have hc:c<cs.length:=(bf.1 hq).1;have he:cs.take c++[q']++cs.drop (c+1)=cs.set c q':=by
   rw[cg,if_pos hc];simp
  simp only[zCd,zA9,zAK,zAF,bd,bJ,cy,bW,he] at hp;cases hp;exact⟨vs,rfl,hk w' Φ' A' q' Li' hA hs hb jd⟩
 case box q0=>
  obtain⟨a,r,u0,L',rfl,h1,h2,h4,h5,⟨h6,vF⟩,h7⟩:=h;have hi:i=0:=by
   cases i with
   |zero=>rfl|succ i=>simp at hq
  subst hi;simp at hq;obtain⟨u,La,Li,Lb,hu,rfl,hr,hk,ho⟩:=h7.cell hq vF;have jj:∀ c2 u2,u0.cells.toList[c2]? = some u2->kid w v (.box q0) 0 c2=some u2:=by
   intro c2 u2 h;subst h1;have:=zCY (c:=r) (o:=a.off) (n:=q0.cells.length) (k:=c2) (u:=u2) (by rw[h5];exact h);simp only[kid,zAx];rw[zCy h4.any];exact this
  refine⟨u,a.block::La,Li,Lb,?_,by simp,hr,fun w' Φ' A' q' Li' p' hA hs hb jp jd hp=>?_,?_,?_⟩
  rotate_left 2
  ·intro w' hb q' p' hp i2 c2;simp only[zCd,zA9,zAK,bd,bJ,cy] at hp;cases hp;subst h1;simp only[kid,World.cell?,zAx];rw[hb a.block (by simp)]
  ·intro i2 c2 q2 hI h2;have wC:i2=0:=by
    cases i2 with
    |zero=>rfl|succ i=>simp[Eng.child,zA9] at h2
   subst wC;simp[Eng.child,zA9] at h2;obtain⟨u2,L2,h3,gj,h5'⟩:=ho c2 q2 (fun e=>hI (by rw[e])) h2;exact⟨u2,L2,jj c2 u2 h3,gj,fun b hb=>by have:=h5' b hb;simp at this ⊢;rcases this with h|h<;>simp[h]⟩
  ·subst h1;have:c<q0.cells.length:=(bf.1 hq).1;have:=zCY (c:=r) (o:=a.off) (n:=q0.cells.length) (k:=c) (u:=u) (by rw[h5];exact hu);simp only[kid,zAx];rw[zCy h4.any];exact this
  ·obtain⟨hx,hl,hg⟩:=hk w' Φ' A' q' Li' hA hs (fun b h=>hb b (by simp at h ⊢;rcases h with h|h<;>simp[h])) jp jd;simp only[zCd,zA9,zAK,bd,bJ,cy] at hp;cases hp;obtain⟨e,h4⟩:=h4;refine⟨a,r,u0,La++Li'++Lb,by simp,h1,h2,⟨e,?_⟩,by rw[hl];exact h5,⟨by rw[hl];exact h6,by rw[hg];exact vF⟩,hx⟩;rw[hb a.block (by simp)];exact h4
 case own sz xs =>
  obtain⟨h1,h2,h3⟩|⟨a,n,r,us,L',rfl,h1,h2,h3,h4,h5,h6,⟨h7,u5⟩,h8,h9⟩:=h
  ·subst h1;simp at hq
  ·cases hx:xs[i]? with
   |none=>rw[hx] at hq;simp at hq
   | some x =>
    rw[hx] at hq;simp at hq;obtain⟨ux,La,Li,Lb,hu,rfl,hr,hk,ho⟩:=h9.split hx;have hg:zCu ux=x.isAgg:=by
     have h1:(us.map zCu)[i]? = some (zCu ux):=by simp[hu]
     have h2:(xs.map PV.isAgg)[i]? = some x.isAgg:=by simp[hx]
     rw[u5] at h1;rw[h1] at h2;simpa using h2
    obtain⟨u,La',Li',Lb',hu',rfl,jd,qD,ho'⟩:=hr.cell hq hg;have jj:∀ i2 c2 x2 u2,us[i2]? = some x2->x2.cells.toList[c2]? = some u2->kid w v (.own sz xs) i2 c2=some u2:=by
     intro i2 c2 x2 u2 j6 wD;subst h1;have hf:=zDT h7 j6 wD;rw[<- h8] at hf;have:=zCY hf;simp only[kid,zAx];rw[zCy h4.any];exact this
    refine⟨u,a.block::(La++La'),Li',Lb'++Lb,?_,by simp,jd,fun w' Φ' A' q' Lj p' hA hs hb jp hrq hp=>?_,?_,?_⟩
    rotate_left 2
    ·intro w' hb q' p' hp i2 c2;simp only[zCd,zA9,zAK,bd,hx] at hp;cases hp;subst h1;simp only[kid,World.cell?,zAx];rw[hb a.block (by simp)]
    ·intro i2 c2 q2 hI h2;simp only[Eng.child,zA9,bd] at h2
     cases j6:xs[i2]? with
     |none=>rw[j6] at h2;cases h2
     | some x2 =>
      rw[j6] at h2;simp only[bd] at h2;by_cases uB:i2=i
      ·subst uB;rw[hx] at j6;cases j6;obtain⟨u2,L2,h3,gj,h5'⟩:=ho' c2 q2 (fun e=>hI (by rw[e])) h2;exact⟨u2,L2,jj _ _ _ _ hu h3,gj,fun b hb=>by have:=h5' b hb;simp at this ⊢;rcases this with h|h<;>simp[h]⟩
      ·obtain⟨ux2,L2,h3,gj,h5'⟩:=ho i2 x2 uB j6;have u6:zCu ux2=x2.isAgg:=by
        have h1:(us.map zCu)[i2]? = some (zCu ux2):=by simp[h3]
        have h2:(xs.map PV.isAgg)[i2]? = some x2.isAgg:=by simp[j6]
        rw[u5] at h1;rw[h1] at h2;simpa using h2
       obtain⟨u2,Ma,Mi,Mb,vF,rfl,h7'',_⟩:=gj.cell h2 u6;exact⟨u2,Mi,jj _ _ _ _ h3 vF,h7'',fun b hb=>by have:=h5' b (by simp[hb]);simp at this ⊢;rcases this with h|h<;>simp[h]⟩
    ·subst h1;have hf:=zDT h7 hu hu';rw[<- h8] at hf;have:=zCY hf;simp only[kid,zAx];rw[zCy h4.any];exact this
    ·obtain⟨ue,hl,hg'⟩:=qD w' Φ' zCp q' Lj (fun _ _ _ h=>h) hs (fun b h=>hb b (by simp at h ⊢;rcases h with h|h<;>simp[h])) jp hrq;have hk:=hk w' Φ' zCp _ _ (fun _ _ _ h=>h) hs (fun b h=>hb b (by simp at h ⊢;rcases h with h|h<;>simp[h])) ue;simp only[zCd,zA9,zAK,bd,hx] at hp;cases hp;obtain⟨e,h4⟩:=h4;refine .inr ⟨a,n,r,us,La++(La'++Lj++Lb')++Lb,by simp,by simpa using h1,h2,by simpa using h3,⟨e,?_⟩,h5,?_,⟨h7,?_⟩,by simpa using h8,hk⟩
     ·rw[hb a.block (by simp)];exact h4
     ·intro y hy;rcases dm hy with hy|hy
      ·exact h6 y hy
      ·rw[hy,hl];exact h6 x (bG hx)
     ·rw[u5,zEH hx hg']
end
def zI0:Al->PV->zA4->Al
 |A,_,[]=>A|A,p,(i,c)::rest=>match child p i c with
  |some q=>zI0 (zG2 A p) q rest|none=>zCp
theorem zEd{p:PV}{i c:Nat}{q' p':PV}(h:zCd p i c q'=some p'):p'.isAgg=p.isAgg:=by
 simp only[zCd] at h;cases p<;>simp only[zA9,dM,bd] at h<;>try cases h
 case own sz xs=>
  cases hx:xs[i]?<;>rw[hx] at h<;>simp[zAK] at h;subst h;rfl
 case box q=>
  cases i with
  |zero=>simp[zAK] at h;subst h;rfl|succ i=>simp at h
 case agg cs=>
  cases i with
  |zero=>simp[zAK,zAF] at h;subst h;rfl|succ i=>simp at h
def zCv:PV->PV->Prop
 |.own sz _,.own sz' _=>sz=sz'|.box _,.box _=>True|.omap _,.omap _=>True|_,_=>False
theorem zCv.refl{p:PV}(h:p.heavy0=true):zCv p p:=by
 cases p<;>simp_all[PV.heavy0,zCv]
theorem zNP{x q q':PV}{c:Nat}(hq:x.cells[c]? = some q)(hg:q'.isAgg=q.isAgg):(zAF x c [q']).cells=x.cells.set c q':=by
 cases hx:x.isAgg with
 |true=>
  cases x<;>simp[PV.isAgg] at hx;rename_i cs;have hc:c<cs.length:=(bf.1 hq).1;show cs.take c++[q']++cs.drop (c+1)=cs.set c q'
  rw[cg,if_pos hc];simp
 |false=>
  have j5:x.cells=[x]:=by cases x<;>first|rfl|simp[PV.isAgg] at hx
  rw[j5] at hq ⊢;have hc:c=0:=by have:=(bf.1 hq).1;simp at this;exact this
  subst hc;simp at hq;subst hq;have he:zAF x 0 [q']=q':=by cases x<;>first|rfl|simp[PV.isAgg] at hx
  rw[he];rw[hx] at hg;cases q'<;>first|rfl|simp[PV.isAgg] at hg
theorem zSv{p q q' p':PV}{i c:Nat}(hc:Eng.child p i c=some q)(hg:q'.isAgg=q.isAgg)(hp:zCd p i c q'=some p') :
  Eng.child p' i c=some q'/\∀ i2 c2,(i2,c2)≠(i,c)->Eng.child p' i2 c2=Eng.child p i2 c2:=by
 simp only[Eng.child] at hc;simp only[zCd] at hp
 cases hh:zA9 p with
 |none=>rw[hh] at hc;cases hc
 | some xs =>
  rw[hh] at hc hp;simp only[bd] at hc hp
  cases hx:xs[i]? with
  |none=>rw[hx] at hc;cases hc
  | some x =>
   rw[hx] at hc hp;simp only[bd] at hc hp;have yf:=zNP hc hg;have hi:i<xs.length:=(bf.1 hx).1;have yO:c<x.cells.length:=(bf.1 hc).1;have qV:zA9 p'=some (xs.set i (zAF x c [q'])):=by
    cases p<;>simp only[zA9] at hh<;>try cases hh
    case agg cs=>
     have jY:i=0:=by simpa using hi
     subst jY;simp only[bJ,ba] at hx;subst hx;simp only[zAF,cy,zAK,ba] at hp ⊢;subst hp;rfl
    case own sz=>
     simp only[zAK,ba] at hp;subst hp;rfl
    case box q0=>
     have jY:i=0:=by simpa using hi
     subst jY;simp only[cy,zAK,ba] at hp ⊢;subst hp;rfl
   refine⟨?_,fun i2 c2 hI=>?_⟩
   ·simp only[Eng.child,qV,bd,ci hi,yf,ci yO]
   ·simp only[Eng.child,qV,hh,bd];by_cases uB:i2=i
    ·subst uB;rw[ci hi,hx];simp only[bd,yf];rw[dd (by intro e;exact hI (by rw[e]))]
    ·rw[dd (by omega)]
section
variable {w w':World} {Φ Φ':Nat->Prop}
theorem zFf{A:Al}:∀ {pre:zA4} {p:PV} {v:Value} {L:LN},Rep w Φ A p v L->(∀ b∈L,w'.heap[b]? = w.heap[b]?)->zA3 w' v p pre=zA3 w v p pre
 |[],_,_,_,_,_=>rfl
 | (i, c)::rest,p,v,L,h,hb=>by
  rw[zBc,zBc]
  cases hc:Eng.child p i c with
  |none=>rfl
  | some q =>
   simp only[bd];obtain⟨u,La,Li,Lb,hk,rfl,hr,_⟩:=h.child hc;have qD:kid w' v p i c=kid w v p i c:=by
    cases p<;>first|(simp[Eng.child,zA9] at hc;done)|skip
    ·obtain⟨vs,rfl,_⟩:=h;rfl
    ·obtain⟨h1,h2,h3⟩|⟨a,n,r,us,L',h0,h1,h2,_⟩:=h
     ·subst h1;simp[Eng.child,zA9] at hc
     ·subst h1;simp only[kid];exact World.cell?_of_block (w:=w) (hb _ (by rw[h0];simp[zAx]))
    ·obtain⟨a,r,u0,L',h0,h1,_⟩:=h;subst h1;simp only[kid];exact World.cell?_of_block (w:=w) (hb _ (by rw[h0];simp[zAx]))
   rw[qD,hk];simp only[bd];exact zFf hr fun b h=>hb b (by simp[h])
theorem zL1{p p' q':PV}{i c:Nat}(hp:zCd p i c q'=some p')(hh:p'.heavy0=true):zCv p p':=by
 simp only[zCd] at hp;cases p<;>simp only[zA9,dM,bd] at hp<;>try cases hp
 case own sz xs=>
  cases hx:xs[i]?<;>rw[hx] at hp<;>simp[zAK] at hp;subst hp;rfl
 case box q=>
  cases i with
  |zero=>simp[zAK] at hp;subst hp;trivial|succ i=>simp at hp
 case agg cs=>
  cases i with
  |zero=>simp[zAK,zAF] at hp;subst hp;cases hh|succ i=>simp at hp
theorem Rep.zip : ∀ (pre:zA4) {A:Al} {p:PV} {v:Value} {L:LN} {q:PV},Rep w Φ A p v L->zAC p pre=some q ->
  ∃ nv La Li Lb,zA3 w v p pre=some (nv,q)/\L=La++Li++Lb/\Rep w Φ (zI0 A p pre) q nv Li /\
   (∀ w' Φ' (A':Al) q' Li' p',(∀ a v,a.isWay=true->A a v->A' a v)->zDq w w' Φ Φ'->(∀ b∈La++Lb,w'.heap[b]? = w.heap[b]?)->(pre≠[]->q'.isAgg=q.isAgg)->Rep w' Φ' (zI0 A' p pre) q' nv Li' ->
    zAz (fun _=>some q') p pre=some p'->Rep w' Φ' A' p' v (La++Li'++Lb)) /\
   ∀ w' q' p',(∀ b∈La++Lb,w'.heap[b]? = w.heap[b]?)->(pre≠[]->q'.isAgg=q.isAgg)->zAz (fun _=>some q') p pre=some p' ->
    ∀ pth nv2 np2,zA3 w' v p' pth=some (nv2,np2)->np2.heavy0=true ->
     (∃ rest,pth=pre++rest/\zA3 w' nv q' rest=some (nv2,np2))\/∃ np0,zA3 w v p pth=some (nv2,np0)/\zCv np0 np2
 |[],A,p,v,L,q,h,hq=>by
  simp only[zAC] at hq;cases hq;refine⟨v,[],L,[],rfl,by simp,h,fun w' Φ' A' q' Li' p' hA hs hb _ hr hp=>?_,fun w' q' p' hb _ hp pth nv2 np2 hf hh=>?_⟩
  ·simp only[zAz] at hp;cases hp;simpa[zI0] using hr
  ·simp only[zAz] at hp;cases hp;exact .inl ⟨pth,rfl,hf⟩
 | (i, c) :: rest,A,p,v,L,q,h,hq=>by
  rw[zCk] at hq
  cases hc:Eng.child p i c with
  |none=>rw[hc] at hq;cases hq
  | some q1 =>
   rw [hc] at hq;simp only [bd] at hq;obtain ⟨u,La,Li,Lb,hu,rfl,hr,hk,jj,vc⟩:=h.child hc;obtain ⟨nv,Ma,Mi,Mb,hf,rfl,uF,vd,uf⟩:=Rep.zip rest hr hq;have jC:∀ q' q1',zAz (fun _=>some q') q1 rest=some q1'->q'.isAgg=q.isAgg->q1'.isAgg=q1.isAgg:=by
    intro q' q1' hm jp
    cases rest with
    |nil=>
     simp only[zAz] at hm;cases hm;simp only[zAC] at hq;cases hq;exact jp
    | cons x rest =>
     obtain⟨i2,c2⟩:=x;rw[zBA] at hm
     cases jJ:Eng.child q1 i2 c2 with
     |none=>rw[jJ] at hm;cases hm|some q2=>
      rw[jJ] at hm;simp only[bd] at hm
      cases vG:zAz (fun _=>some q') q2 rest with
      |none=>rw[vG] at hm;cases hm|some q2'=>rw[vG] at hm;exact zEd (by simpa using hm)
   refine⟨nv,La++Ma,Mi,Mb++Lb,?_,by simp,?_,fun w' Φ' A' q' Li' p' hA hs hb jp jd hp=>?_,fun w' q' p' hb jp hp pth nv2 np2 kE hh=>?_⟩
   rotate_left 3
   ·rw [zBA,hc] at hp;simp only [bd] at hp
    cases hm:zAz (fun _=>some q') q1 rest with
    |none=>rw[hm] at hp;cases hp
    | some q1' =>
     rw[hm] at hp;simp only[bd] at hp;have y8:∀ b∈La++Lb,w'.heap[b]? = w.heap[b]?:=fun b h=>hb b (by simp at h ⊢;rcases h with h|h<;>simp[h]);have jS:∀ b∈Ma++Mb,w'.heap[b]? = w.heap[b]?:=fun b h=>hb b (by simp at h ⊢;rcases h with h|h<;>simp[h]);have hg:q1'.isAgg=q1.isAgg:=jC q' q1' hm (jp (by simp));obtain⟨y7,hoc⟩:=zSv hc hg hp
     cases pth with
     |nil=>
      simp only[zA3,ba,bw] at kE;obtain⟨rfl,rfl⟩:=kE;exact .inr ⟨p,rfl,zL1 hp hh⟩
     | cons x pth =>
      obtain⟨i2,c2⟩:=x;rw[zBc] at kE;by_cases yk:(i2,c2)=(i,c)
      ·cases yk;rw[y7] at kE;simp only[bd] at kE;rw[jj w' y8 q1' p' hp,hu] at kE;simp only[bd] at kE;rcases uf w' q' q1' jS (fun _=>jp (by simp)) hm pth nv2 np2 kE hh with⟨rst,rfl,h3⟩|⟨np0,h3,h4⟩
       ·exact .inl ⟨rst,rfl,h3⟩
       ·refine .inr ⟨np0,?_,h4⟩;rw[zBc,hc];simp only[bd];rw[hu];exact h3
      ·rw[hoc i2 c2 yk] at kE
       cases jJ:Eng.child p i2 c2 with
       |none=>rw[jJ] at kE;cases kE|some q2=>
        rw[jJ] at kE;simp only[bd] at kE;obtain⟨u2,L2,h3,h4,h5⟩:=vc i2 c2 q2 yk jJ;rw[jj w' y8 q1' p' hp,h3] at kE;simp only[bd] at kE;rw[zFf h4 fun b yJ=>y8 b (h5 b yJ)] at kE;refine .inr ⟨np2,?_,zCv.refl hh⟩;rw[zBc,jJ];simp only[bd];rw[h3];exact kE
   ·rw[zBc,hc];simp only[bd];rw[hu];simpa using hf
   ·simpa only [zI0,hc] using uF
   ·rw[zBA,hc] at hp;simp only[bd] at hp
    cases hm:zAz (fun _=>some q') q1 rest with
    |none=>rw[hm] at hp;cases hp|some q1'=>
     rw[hm] at hp;simp only[bd] at hp;simp only[zI0,hc] at jd;have h2:=vd w' Φ' (zG2 A' p) q' Li' q1' (zLi hA) hs (fun b h=>hb b (by simp at h ⊢;rcases h with h|h<;>simp[h])) (fun _=>jp (by simp)) jd hm;have hg:q1'.isAgg=q1.isAgg:=jC q' q1' hm (jp (by simp));have:=hk w' Φ' A' q1' _ p' hA hs (fun b h=>hb b (by simp at h ⊢;rcases h with h|h<;>simp[h])) hg h2 hp;simpa using this
end
section
variable {w:World} {Φ:Nat->Prop} {rv:Nat->Value} {E:Nat->PV}
theorem zM3{r:Nat}{pre:zA4}{p:PV}{v:Value}{L:LN}(hr:r<zAa)(hf:zA3 w (rv r) (E r).unlock pre=some (v,p))
  (h:Rep w Φ (zBb w rv E) p v L):Rep w Φ (zBb w rv E) (zHh r pre p) v []:=by
 cases p with
 | own sz xs =>
  refine⟨rfl,hr,?_,?_⟩
  ·obtain⟨h1,h2,h3⟩|⟨a,n,c,us,L',h0,h1,h2,h3,h4⟩:=h
   ·subst h1;exact⟨none,0,h3,by simp,by simp,by simp⟩
   ·exact⟨some a,n,h1,h3,by simp,fun b hb=>by cases hb;exact h2⟩
  ·intro nv np hn _;rw[hf] at hn;cases hn;refine⟨sz,xs,rfl,rfl,?_⟩;obtain⟨h1,h2,h3⟩|⟨a,n,c,us,L',h0,h1,h2,h3,h4⟩:=h
   ·subst h1;subst h3;exact⟨rfl,rfl⟩
   ·subst h1;have:zAx a (0*sz)=a:=by cases a;simp_all[zAx]
    exact⟨by rw[this];rfl,by simpa using h3⟩
 |box q=>
  obtain⟨a,c,u,L',h0,h1,h2,h4⟩:=h;refine⟨rfl,hr,a,h1,h2,?_⟩;intro nv np hn a' ha;rw[hf] at hn;cases hn;subst h1;have:zAx a 0=a:=by cases a;simp_all[zAx]
  simp only[zBe,this] at ha;cases ha;rfl
 |omap es=>
  obtain⟨b,ents,h0,h1,h4⟩:=h;refine⟨rfl,hr,⟨b,h1⟩,?_⟩;intro nv np hn es' he;rw[hf] at hn;cases hn;rfl
 |agg cs=>rfl|tup cs=>rfl|lock q=>rfl|_=>simp_all[zHh,Rep]
end
end Go.Eng
namespace Go.Eng
open Go
theorem zDV{p q:PV}(h:zCv p q):p.heavy0=true:=by cases p<;>cases q<;>first|rfl|cases h
def zBf:PV->Nat×zA4
 |.addr r pre .. => (r,pre)|.bor r pre .. => (r,pre)|.bsl r pre .. => (r,pre)|.bmap r pre=>(r,pre)|_=>(0,[])
theorem zEC{nv:Value}{p q:PV}{i c:Nat}(h:zCv p q):zBe nv p i c=zBe nv q i c:=by
 cases p<;>cases q<;>simp only[zCv] at h
 ·subst h;cases nv with
  |slice a _ _=>cases a<;>rfl
  |pointer a=>cases a<;>rfl
  |_=>rfl
 ·cases nv with
  |pointer a=>cases a<;>cases i<;>rfl
  |slice a _ _=>cases a<;>rfl
  |_=>rfl
 ·cases nv with
  |pointer a=>cases a<;>cases i<;>rfl
  |slice a _ _=>cases a<;>rfl
  |_=>rfl
section
variable {w w':World} {Φ Φ':Nat->Prop} {rv rv':Nat->Value} {E E':Nat->PV}
theorem zBb.mono{a:PV}{v:Value}(h:zBb w rv E a v)
  (hf:∀ nv np,zA3 w' (rv' (zBf a).1) (E' (zBf a).1).unlock (zBf a).2=some (nv,np)->np.heavy0=true ->
   ∃ np0,zA3 w (rv (zBf a).1) (E (zBf a).1).unlock (zBf a).2=some (nv,np0)/\zCv np0 np):zBb w' rv' E' a v:=by
 have key:∀ nv np i c a',zBe nv np i c=some a'->np.heavy0=true:=by
  intro nv np i c a' h;cases np<;>first|rfl|(simp[zBe] at h)
 have key2:∀ nv np np0 i c a',zBe nv np i c=some a'->zCv np0 np->zBe nv np0 i c=some a':=by
  intro nv np np0 i c a' h hl;rw[zEC hl];exact h
 cases a<;>simp only[zBb] at h ⊢
 case addr r pre i c sh=>
  obtain⟨hr,a,h1,h2,h3⟩:=h;refine⟨hr,a,h1,h2,fun nv np hn a' ha=>?_⟩;obtain⟨np0,kZ,hl⟩:=hf nv np hn (key _ _ _ _ _ ha);exact h3 nv np0 kZ a' (key2 _ _ _ _ _ _ ha hl)
 case bor r pre z lo n=>
  obtain⟨hr,h1,h3⟩:=h;refine⟨hr,h1,fun nv np hn hh=>?_⟩;obtain⟨np0,kZ,hl⟩:=hf nv _ hn hh;obtain⟨sz,xs,he,hz,yy⟩:=h3 nv np0 kZ (zDV hl);subst he;cases np<;>simp only[zCv] at hl;subst hl;exact⟨_,_,rfl,hz,yy⟩
 case bsl r pre i c sz ag n=>
  obtain⟨hr,a,cap,h1,h2,jo,h3⟩:=h;refine⟨hr,a,cap,h1,h2,jo,fun nv np hn a' ha=>?_⟩;obtain⟨np0,kZ,hl⟩:=hf nv np hn (key _ _ _ _ _ ha);exact h3 nv np0 kZ a' (key2 _ _ _ _ _ _ ha hl)
 case bmap r pre=>
  obtain⟨hr,h1,h3⟩:=h;refine⟨hr,h1,fun nv np hn es he=>?_⟩;subst he;obtain⟨np0,kZ,hl⟩:=hf nv _ hn rfl;cases np0<;>simp only[zCv] at hl;exact h3 nv _ kZ _ rfl
theorem zEA:∀ {ps:List PV} {i:Nat} {p:PV},zDj ps=false->ps[i]? = some p->p.heavy=false
 |[],_,_,_,h=>by simp at h|q::ps,0,p,hh,h=>by
  simp at h;subst h;simp only[zDj,cD] at hh;exact hh.1
 |q::ps,i+1,p,hh,h=>by
  simp only[zDj,cD] at hh;exact zEA hh.2 (by simpa using h)
theorem zEB:∀ {pre:zA4} {p:PV} {v nv:Value} {np:PV},p.heavy=false->zA3 w v p pre=some (nv,np)->np.heavy=false
 |[],p,v,nv,np,hp,h=>by simp only[zA3] at h;cases h;exact hp
 | (i, c)::rest,p,v,nv,np,hp,h=>by
  rw[zBc] at h
  cases hc:Eng.child p i c with
  |none=>rw[hc] at h;cases h
  | some q =>
   rw[hc] at h;simp only[bd] at h
   cases hk:kid w v p i c with
   |none=>rw[hk] at h;cases h|some u=>
    rw[hk] at h;simp only[bd] at h;refine zEB ?_ h;cases p<;>first|(simp[Eng.child,zA9] at hc;done)|(simp[PV.heavy] at hp;done)|skip
    rename_i cs
    cases i with
    |zero=>simp[Eng.child,zA9,PV.cells] at hc;exact zEA hp hc|succ i=>simp[Eng.child,zA9] at hc
theorem zFY{p:PV}(h:p.heavy0=true):p.heavy=true:=by
 cases p<;>simp_all[PV.heavy0,PV.heavy]
structure Conf (w0:World) (U Φ0:Nat->Prop) (w:World) (Φ:Nat->Prop) (rv:Nat->Value) (E:Nat->PV) (L:Nat->LN):Prop where
 rep:∀ s,Rep w Φ (zBb w rv E) (E s) (rv s) (L s)
 nodup:∀ s,(L s).Nodup
 disj:∀ s s',s≠s'->∀ b∈L s,b∉L s'
 own:∀ s,∀ b∈L s,b<w.heap.size/\¬ Φ b/\(U b\/w0.heap.size<=b)
 frz:∀ b,Φ b->b<w.heap.size/\(Φ0 b\/U b\/w0.heap.size<=b)
 frz0:∀ b,Φ0 b->Φ b
 size:w0.heap.size<=w.heap.size
 kept:∀ b,b<w0.heap.size->¬ U b->w.heap[b]? = w0.heap[b]?
 os:w.os=w0.os
 tape:w.tape=w0.tape
 output:w.output=w0.output
def upd{α:Type}(f:Nat->α)(s:Nat)(x:α):Nat->α:=fun t=>if t=s then x else f t
theorem zAi{α:Type}{f:Nat->α}{s:Nat}{x:α}:upd f s x s=x:=if_pos rfl
theorem zAf{α:Type}{f:Nat->α}{s t:Nat}{x:α}(h:t≠s):upd f s x t=f t:=if_neg h
theorem zCf{A:Al}{p:PV}{v:Value}{L:LN}(h:Rep w Φ A p v L):Rep w Φ A p.unlock v L:=by cases p<;>exact h
theorem zDw:∀ (a b:zA4) (v:Value) (p:PV),zA3 w v p (a++b)=(zA3 w v p a).bind fun x=>zA3 w x.1 x.2 b
 |[],b,v,p=>rfl
 | (i,c)::a,b,v,p=>by
  rw[List.cons_append,zBc,zBc]
  cases Eng.child p i c with
  |none=>rfl|some q=>
   simp only[bd]
   cases kid w v p i c with
   |none=>rfl|some u=>simp only[bd];exact zDw a b u q
theorem zHU{v:Value}{p:PV}{i c:Nat}:zA3 w v p [(i,c)]=(Eng.child p i c).bind fun q=>(kid w v p i c).bind fun u=>some (u,q):=by
 rw[zBc];rfl
theorem zBa.part{A:Al}:∀ {ps:List PV} {us:List Value} {L:LN},zBa w Φ A ps us L->∀ c n,∃ L',zBa w Φ A ((ps.drop c).take n) ((us.drop c).take n) L'
 |[],us,L,h,c,n=>by rw[h.1];exact⟨[],by simp[zBa]⟩|p::ps,us,L,h,0,0=>⟨[],by simp[zBa]⟩|p::ps,us,L,h,0,n+1=>by
  obtain⟨v,vs,L1,L2,rfl,rfl,h1,h2⟩:=h;obtain⟨L',h'⟩:=h2.part 0 n;exact⟨L1++L',v,_,L1,L',rfl,rfl,h1,by simpa using h'⟩
 |p::ps,us,L,h,c+1,n=>by
  obtain⟨v,vs,L1,L2,rfl,rfl,h1,h2⟩:=h;simpa using h2.part c n
theorem zHK{p:PV}{xs:List PV}(h:zBm p=some xs):zA9 p=some xs:=by cases p<;>first|exact h|cases h
theorem zCb{a:Addr}(h:a.spot=none)(j:Nat):a.add j=zAx a j:=by
 obtain⟨b,o,sp⟩:=a;simp only at h;subst h;simp only[Addr.add,zAx];split
 ·rename_i hj;subst hj;rfl
 ·rfl
theorem zGm(a:Addr)(k j:Nat):(zAx a k).add j=zAx a (k+j):=by
 rw[zCb rfl];simp[zAx,b7]
theorem zUJ{nv:Value}{np:PV}{xs:List PV}{i c j:Nat}{ad:Addr}(h:zBm np=some xs)(ha:zBe nv np i c=some ad):kid w nv np i (c+j)=w.cell? (ad.add j):=by
 cases np<;>simp only[zBm] at h<;>try cases h
 ·cases nv with
  |slice a _ _=>
   cases a with
   |none=>cases ha|some a=>simp only[zBe] at ha;cases ha;rw[zGm];simp[kid,b7]
  |pointer a=>cases a<;>cases ha
  |_=>cases ha
 ·cases nv with
  |pointer a=>
   cases a with
   |none=>cases i<;>cases ha
   |some a=>cases i<;>simp only[zBe] at ha<;>cases ha;rw[zGm];simp[kid,b7]
  |slice a _ _=>cases a<;>cases ha
  |_=>cases ha
theorem zGv{A:Al}{p:PV}{a:PV}{v:Value}(h:zG2 A p a v):A a v:=by
 cases p<;>first|exact h|exact h.elim
theorem zEO:∀ {pre:zA4} {A:Al} {p:PV} {a:PV} {v:Value},zI0 A p pre a v->A a v
 |[],_,_,_,_,h=>h|(i,c)::rest,A,p,a,v,h=>by
  simp only[zI0] at h
  cases hc:Eng.child p i c with
  |none=>rw[hc] at h;exact h.elim|some q=>rw[hc] at h;exact zGv (zEO h)
theorem Rep.cellsAll{A:Al}{p:PV}{v:Value}{L:LN}(h:Rep w Φ A p v L)(hn:zCu v=p.isAgg):zBa w Φ A p.cells v.cells.toList L:=by
 cases hp:p.isAgg with
 |true=>
  cases p<;>simp[PV.isAgg] at hp;obtain⟨vs,rfl,h⟩:=h;exact h
 |false=>
  have j5:p.cells=[p]:=by cases p<;>first|rfl|simp[PV.isAgg] at hp
  have hv:v.cells=#[v]:=by rw[hp] at hn;cases v<;>first|rfl|simp[zCu] at hn
  rw[j5,hv];exact⟨v,[],L,[],rfl,by simp,h,rfl,rfl⟩
theorem zTB{A:Al}{np:PV}{nv:Value}{Li:LN}(h:Rep w Φ A np nv Li){xs:List PV}(hx:zBm np=some xs){i:Nat}{x:PV}(hi:xs[i]? = some x)(c:Nat) :
  ∃ ux ad Lx,(∀ b∈Lx,b∈Li)/\zBe nv np i c=some ad/\ad.spot=none/\(∀ k u,ux.cells.toList[k]? = some u->∀ j,k=c+j->w.cell? (ad.add j)=some u)/\zCu ux=x.isAgg/\ux.cells.size=x.cells.length/\zBa w Φ (zG2 A np) x.cells ux.cells.toList Lx:=by
 cases np<;>simp only[zBm] at hx<;>try cases hx
 case own sz=>
  obtain⟨h1,h2,h3⟩|⟨a,n,r,us,L',rfl,h1,h2,h3,h4,h5,h6,⟨h7,u5⟩,h8,h9⟩:=h
  ·subst h1;simp at hi
  ·obtain⟨ux,La,Lx,Lb,hu,rfl,hr,_,_⟩:=h9.split hi;have hg:zCu ux=x.isAgg:=by
    have h1:(us.map zCu)[i]? = some (zCu ux):=by simp[hu]
    have h2:(xs.map PV.isAgg)[i]? = some x.isAgg:=by simp[hi]
    rw[u5] at h1;rw[h1] at h2;simpa using h2
   subst h1;refine⟨ux,zAx a (i*sz+c),Lx,fun b hb=>by simp[hb],rfl,rfl,?_,hg,?_,hr.cellsAll hg⟩
   ·intro k u hk j hkj;have hf:=zDT h7 hu hk;rw[<- h8] at hf;have:=zCY hf;rw[zGm,show i*sz+c+j=i*sz+k by omega];simp only[zAx];rw[zCy h4.any];exact this
   ·rw[h7 ux (bG hu),h6 x (bG hi)]
 case box q0=>
  obtain⟨a,r,u0,L',rfl,h1,h2,h4,h5,⟨h6,vF⟩,h7⟩:=h;have jY:i=0:=by
   cases i with
   |zero=>rfl|succ i=>simp at hi
  subst jY;simp at hi;subst hi;subst h1;refine⟨u0,zAx a c,L',fun b hb=>by simp[hb],rfl,rfl,?_,vF,h6,h7.cellsAll vF⟩;intro k u hk j hkj;have:=zCY (c:=r) (o:=a.off) (n:=q0.cells.length) (k:=k) (u:=u) (by rw[h5];exact hk);rw[zGm,<- hkj];simp only[zAx];rw[zCy h4.any];exact this
theorem zFd{r i:Nat}{pre:zA4}(hr:r<zAa):∀ {ps:List PV} {us:List Value} {L:LN} {c:Nat},zBa w Φ (zBb w rv E) ps us L ->
  (∀ j p u,ps[j]? = some p->us[j]? = some u->zA3 w (rv r) (E r).unlock (pre++[(i,c+j)])=some (u,p))->zBa w Φ (zBb w rv E) (zBR r pre i c ps) us []
 |[],us,L,c,h,_=>⟨h.1,rfl⟩|p::ps,us,L,c,h,hf=>by
  obtain⟨v,vs,L1,L2,rfl,rfl,h1,h2⟩:=h;refine⟨v,vs,[],[],rfl,rfl,zM3 hr (hf 0 p v rfl rfl) h1,zFd hr h2 fun j q u hq hu=>?_⟩;have:=hf (j+1) q u (by simpa using hq) (by simpa using hu);rwa[show c+1+j=c+(j+1) by omega]
section
variable {w0:World} {U Φ0:Nat->Prop} {L:Nat->LN}
theorem Conf.view(h:Conf w0 U Φ0 w Φ rv E L){s:Nat}(hs:s<zAa):Rep w Φ (zBb w rv E) (view s (E s)) (rv s) []:=by
 have hr:=zCf (h.rep s);have hv:Eng.view s (E s)=zVa s (E s).unlock:=by cases E s<;>rfl
 rw[hv];have hf:zA3 w (rv s) (E s).unlock []=some (rv s,(E s).unlock):=rfl;have key:∀ p,(E s).unlock=p->Rep w Φ (zBb w rv E) (zVa s p) (rv s) []:=by
  intro p hp;rw[hp] at hr hf
  cases p with
  |agg cs=>
   obtain⟨vs,hv,hr⟩:=hr;refine⟨vs,hv,zFd hs hr fun j p u hj hu=>?_⟩;rw[zDw,hp,hf,hv];show(zA3 w (.agg vs) (.agg cs) [(0,0+j)])=_
   rw[zHU];have hu:vs[j]? = some u:=by simpa using hu
   simp[Eng.child,zA9,PV.cells,kid,hj,hu]
  |tup cs=>rfl|_=>exact zM3 (pre:=[]) hs (by rw[hp];exact hf) hr
 exact key _ rfl
theorem Conf.cells (h:Conf w0 U Φ0 w Φ rv E L) {r:Nat} {pre:zA4} {i c n:Nat} {a:Bool} {qs:List PV} (hr:r<zAa) (hc:zAo r (E r) pre i c n=some (a,qs)) :
  ∃ nv np ad us,zA3 w (rv r) (E r).unlock pre=some (nv,np)/\zBe nv np i c=some ad/\ad.spot=none/\us.length=n/\(∀ j u,us[j]? = some u->w.cell? (ad.add j)=some u)/\zBa w Φ (zBb w rv E) qs us []:=by
 simp only[zAo] at hc
 cases hn:zAC (E r).unlock pre with
 |none=>rw[hn] at hc;cases hc
 | some np =>
  rw[hn] at hc;simp only at hc;obtain⟨nv,La,Li,Lb,hf,hL,hX,_,_⟩:=Rep.zip pre (zCf (h.rep r)) hn
  cases hx:zBm np with
  |none=>rw[hx] at hc;cases hc
  | some xs =>
   rw[hx] at hc;simp only at hc
   cases hxi:xs[i]? with
   |none=>rw[hxi] at hc;cases hc
   | some x =>
    rw[hxi] at hc;simp only at hc;by_cases yR:c+n<=x.cells.length
    ·rw [cP yR] at hc;simp only [cond_true,ba,bw] at hc;obtain ⟨rfl,rfl⟩:=hc;obtain ⟨ux,ad,Lx,hA,jO,y9,j0,qW,yG,vH⟩:=zTB hX hx hxi c;have hZ:ux.cells.toList.length=x.cells.length:=(vH.length);refine ⟨nv,np,ad,(ux.cells.toList.drop c).take n,hf,jO,y9,by simp at hZ ⊢;omega,?_,?_⟩
     ·intro j u hj;simp only[ck,cf] at hj;split at hj
      ·exact j0 (c+j) u hj j rfl
      ·cases hj
     ·obtain⟨L',yg⟩:=vH.part c n;refine zFd hr (yg.mono (A':=zBb w rv E) zDq.refl (fun a v hw ha=>zEO (zGv ha)) (fun _ _=>rfl)) fun j p u hp hu=>?_;simp only[ck,cf] at hp hu;split at hp
      ·rename_i hjn;rw[if_pos hjn] at hu;rw[zDw,hf];simp only[bd];rw[zHU];have y7:Eng.child np i (c+j)=some p:=by
        simp only[Eng.child];rw[zHK hx];simp[hxi,hp]
       rw[y7];simp only[bd];rw[zUJ hx jO (j:=j),j0 (c+j) u hu j rfl];rfl
      ·cases hp
    ·have:ble (c+n) x.cells.length=false:=by
      cases hb:ble (c+n) x.cells.length with
      |false=>rfl|true=>exact absurd (br hb) yR
     rw[this] at hc;simp at hc
theorem Conf.put(h:Conf w0 U Φ0 w Φ rv E L){s:Nat}{p:PV}{v:Value}(hp:p.heavy=false)(hr:Rep w Φ (zBb w rv E) p v []) :
  Conf w0 U Φ0 w Φ (upd rv s v) (upd E s p) (upd L s []):=by
 have hA:∀ a u,a.isWay=true->zBb w rv E a u->zBb w (upd rv s v) (upd E s p) a u:=by
  intro a u _ ha;refine ha.mono fun nv np hn hh=>?_;by_cases hs:(zBf a).1=s
  ·rw[hs,zAi,zAi] at hn;have hu:p.unlock=p:=by cases p<;>first|rfl|simp[PV.heavy] at hp
   rw[hu] at hn;have:=zEB hp hn;rw[zFY hh] at this;cases this
  ·rw[zAf hs,zAf hs] at hn;exact⟨np,hn,zCv.refl hh⟩
 refine{h with rep:=?_,nodup:=?_,disj:=?_,own:=?_}
 ·intro t;by_cases ht:t=s
  ·subst ht;rw[zAi,zAi,zAi];exact hr.mono zDq.refl hA (by simp)
  ·rw[zAf ht,zAf ht,zAf ht];exact(h.rep t).mono zDq.refl hA (fun _ _=>rfl)
 ·intro t;by_cases ht:t=s
  ·subst ht;rw[zAi];simp
  ·rw[zAf ht];exact h.nodup t
 ·intro t t' hI b hb;by_cases ht:t=s
  ·subst ht;rw[zAi] at hb;simp at hb
  ·rw[zAf ht] at hb;by_cases ht':t'=s
   ·subst ht';rw[zAi];simp
   ·rw[zAf ht'];exact h.disj t t' hI b hb
 ·intro t b hb;by_cases ht:t=s
  ·subst ht;rw[zAi] at hb;simp at hb
  ·rw[zAf ht] at hb;exact h.own t b hb
end
end
def PV.dull:PV->Bool
 |.own ..|.box ..|.omap ..|.agg _|.lock _=>false|_=>true
structure Tame (f:PV->PV):Prop where
 agg:∀ p,(f p).isAgg=p.isAgg
 dull:∀ p,p.isWay=true->(f p).dull=true
theorem zOR{p:PV}(h:p.dull=true):zA9 p=none:=by cases p<;>first|rfl|cases h
theorem zOf{p:PV}(h:p.dull=true):p.heavy0=false:=by cases p<;>first|rfl|cases h
theorem zOi{p:PV}(h:p.dull=true):p.unlock=p:=by cases p<;>first|rfl|cases h
theorem zHR{f:PV->PV}:∀ (ps:List PV) (i:Nat),(zCB f ps)[i]? = (ps[i]?).map fun p=>p.mapW f
 |[],i=>by simp[zCB]|p::ps,0=>by simp[zCB]|p::ps,i+1=>by simp only[zCB,fb];exact zHR ps i
theorem zQo{f:PV->PV}(hf:Tame f)(q:PV)(c:Nat):(q.mapW f).cells[c]? = (q.cells[c]?).map fun p=>p.mapW f:=by
 cases hq:q.isAgg with
 |true=>
  cases q<;>simp[PV.isAgg] at hq;simp only[PV.mapW,PV.cells];exact zHR _ _
 |false=>
  have h1:q.cells=[q]:=by cases q<;>first|rfl|simp[PV.isAgg] at hq
  have h2:(q.mapW f).isAgg=false:=by rw[zGp hf.agg];exact hq
  have h3:(q.mapW f).cells=[q.mapW f]:=by revert h2;cases q.mapW f<;>intro h2<;>first|rfl|simp[PV.isAgg] at h2
  rw[h1,h3];cases c<;>simp
theorem zGy{f:PV->PV}{p:PV}(h:p.isWay=true):p.mapW f=f p:=by cases p<;>first|rfl|cases h
theorem zDN{f:PV->PV}(hf:Tame f)(p:PV):(p.mapW f).unlock=p.unlock.mapW f:=by
 cases hp:p.isWay with
 |true=>
  have h1:p.unlock=p:=by cases p<;>first|rfl|cases hp
  rw[h1,zGy hp,zOi (hf.dull p hp)]
 |false=>cases p<;>first|rfl|cases hp
section
variable {w w':World} {Φ Φ':Nat->Prop} {rv rv':Nat->Value} {E E':Nat->PV}
theorem zWR{v:Value}{p q:PV}{i c:Nat}:kid w v (.box p) i c=kid w v (.box q) i c:=by
 cases v with
 |pointer a=>cases a<;>rfl
 |slice a _ _=>cases a<;>rfl
 |_=>rfl
theorem zW0{v:Value}{p q:List PV}{i c:Nat}:kid w v (.agg p) i c=kid w v (.agg q) i c:=by
 cases v with
 |pointer a=>cases a<;>rfl
 |slice a _ _=>cases a<;>rfl
 |_=>rfl
theorem zDc {f:PV->PV} (hf:Tame f):∀ {pre:zA4} {p:PV} {v nv:Value} {np':PV},zA3 w v (p.mapW f) pre=some (nv,np')->np'.heavy0=true ->
  ∃ np,zA3 w v p pre=some (nv,np)/\zCv np np'
 |[],p,v,nv,np',h,hh=>by
  simp only[zA3,ba,bw] at h;obtain⟨rfl,rfl⟩:=h;refine⟨p,rfl,?_⟩
  cases hp:p.isWay with
  |true=>rw[zGy hp,zOf (hf.dull p hp)] at hh;cases hh|false=>cases p<;>first|(cases hp;done)|(simp[PV.mapW,PV.heavy0] at hh;done)|simp[PV.mapW,zCv]
 | (i, c) :: rest,p,v,nv,np',h,hh=>by
  rw[zBc] at h
  cases hc:Eng.child (p.mapW f) i c with
  |none=>rw[hc] at h;cases h
  | some q' =>
   rw[hc] at h;simp only[bd] at h
   cases hk:kid w v (p.mapW f) i c with
   |none=>rw[hk] at h;cases h
   | some u =>
    rw[hk] at h;simp only[bd] at h;have go:∀ q,Eng.child p i c=some q->kid w v p i c=some u->q'=q.mapW f->∃ np,zA3 w v p ((i,c)::rest)=some (nv,np)/\zCv np np':=by
     intro q h1 h2 h3;subst h3;obtain⟨np,hn,hl⟩:=zDc hf h hh;exact⟨np,by rw[zBc,h1];simp only[bd];rw[h2];exact hn,hl⟩
    cases hp:p.isWay with
    |true=>
     rw[zGy hp] at hc;simp[Eng.child,zOR (hf.dull p hp)] at hc
    | false =>
     cases p<;>first|(cases hp;done)|(simp[PV.mapW,Eng.child,zA9] at hc;done)|skip
     case own sz xs=>exact⟨np',by rw[zBc];simp only[PV.mapW] at hc hk;rw[hc];simp only[bd];rw[hk];exact h,zCv.refl hh⟩
     case box q0=>
      simp only[PV.mapW,Eng.child,zA9,bd] at hc
      cases i with
      |succ i=>simp at hc
      | zero =>
       simp only[bJ,bd] at hc;rw[zQo hf] at hc
       cases hq:q0.cells[c]? with
       |none=>rw[hq] at hc;cases hc|some q=>
        rw[hq] at hc;simp only[bu,ba] at hc;exact go q (by simp[Eng.child,zA9,hq]) (by rw[<- hk,PV.mapW];exact zWR) hc.symm
     case agg cs=>
      simp only[PV.mapW,Eng.child,zA9,bd] at hc
      cases i with
      |succ i=>simp at hc
      | zero =>
       simp only[bJ,bd,PV.cells] at hc;rw[zHR] at hc
       cases hq:cs[c]? with
       |none=>rw[hq] at hc;cases hc|some q=>
        rw[hq] at hc;simp only[bu,ba] at hc;exact go q (by simp[Eng.child,zA9,PV.cells,hq]) (by rw[<- hk,PV.mapW];exact zW0) hc.symm
section
variable {w0:World} {U Φ0:Nat->Prop} {L L':Nat->LN}
theorem zC7{a:PV}{v:Value}(h:zBb w rv E a v):(zBf a).1<zAa:=by
 cases a<;>simp only[zBb] at h<;>first|exact h.1|exact h.elim
theorem zCX(h:Conf w0 U Φ0 w Φ rv E L){f:PV->PV}(hf:Tame f){a:PV}{v:Value}(ha:zBb w rv E a v)(hE:E' (zBf a).1=(E (zBf a).1).mapW f)(hv:rv' (zBf a).1=rv (zBf a).1)
  (hb:∀ b∈L (zBf a).1,w'.heap[b]? = w.heap[b]?):zBb w' rv' E' a v:=by
 refine ha.mono fun nv np hn hh=>?_;rw[hE,hv,zDN hf] at hn;obtain⟨np0,kZ,hl⟩:=zDc hf hn hh;rw[zFf (zCf (h.rep _)) hb] at kZ;exact⟨np0,kZ,hl⟩
theorem zMd{a:PV}{v:Value}(ha:zBb w rv E a v)(hE:(E' (zBf a).1).unlock.heavy=false):zBb w' rv' E' a v:=by
 refine ha.mono fun nv np hn hh=>?_;have:=zEB hE hn;rw[zFY hh] at this;cases this
theorem Conf.step2(h:Conf w0 U Φ0 w Φ rv E L)(σ:Nat->ON)(f:PV->PV)(hf:Tame f)
  (hσ:∀ s s' t,σ s=some t->σ s'=some t->s=s')
  (hE:∀ s t,σ s=some t->E' s=(E t).mapW f/\rv' s=rv t/\L' s=L t)
  (hN:∀ s,σ s=none->Rep w' Φ (zBb w' rv' E') (E' s) (rv' s) (L' s))
  (hA:∀ a v,a.isWay=true->zBb w rv E a v->Rep w' Φ (zBb w' rv' E') (f a) v [])
  (hd:∀ s,σ s=none->(L' s).Nodup) (qE:∀ s s',σ s=none->σ s'=none->s≠s'->∀ b∈L' s,b∉L' s')
  (ho:∀ s,σ s=none->∀ b∈L' s,(∃ t,b∈L t/\∀ s,σ s≠some t)\/(w.heap.size<=b/\b<w'.heap.size))
  (hw:w.heap.size<=w'.heap.size) (hk:∀ b,b<w.heap.size->(∀ t,b∈L t->∃ s,σ s=some t)->w'.heap[b]? = w.heap[b]?)
  (u7:w'.os=w.os/\w'.tape=w.tape/\w'.output=w.output):Conf w0 U Φ0 w' Φ rv' E' L':=by
 have hLk:∀ s t,σ s=some t->∀ b∈L t,w'.heap[b]? = w.heap[b]?:=by
  intro s t hs b hb;refine hk b (h.own t b hb).1 fun t' yJ=>?_;have:t'=t:=cA fun hI=>h.disj t' t hI b yJ hb;exact⟨s,this▸hs⟩
 have hΦ:zDq w w' Φ Φ:=fun b hb=>⟨hb,hk b (h.frz b hb).1 fun t jz=>absurd hb (h.own t b jz).2.1⟩;have wO:∀ g,σ g=none->∀ b∈L' g,∀ t,b∈L t->∀ s,σ s≠some t:=by
  intro g hg b hb t jz s hs;rcases ho g hg b hb with⟨t',h1,h2⟩|⟨h1,h2⟩
  ·have:t'=t:=cA fun hI=>h.disj t' t hI b h1 jz;exact h2 s (this▸hs)
  ·have:=(h.own t b jz).1;omega
 refine⟨?_,?_,?_,?_,?_,h.frz0,bF h.size hw,?_,u7.1.trans h.os,u7.2.1.trans h.tape,u7.2.2.trans h.output⟩
 ·intro s
  cases hs:σ s with
  |some t=>
   obtain⟨h1,h2,h3⟩:=hE s t hs;rw[h1,h2,h3];exact Rep.map hf.agg hΦ hA _ _ _ (hLk s t hs) (h.rep t)
  |none=>exact hN s hs
 ·intro s
  cases hs:σ s with
  |some t=>rw[(hE s t hs).2.2];exact h.nodup t|none=>exact hd s hs
 ·intro s s' hI b hb yJ
  cases hs:σ s with
  | some t =>
   rw[(hE s t hs).2.2] at hb
   cases yz:σ s' with
   |some t'=>
    rw[(hE s' t' yz).2.2] at yJ;have:t≠t':=fun e=>hI (hσ s s' t hs (e▸yz));exact h.disj t t' this b hb yJ
   |none=>exact wO s' yz b yJ t hb s hs
  |none=>
   cases yz:σ s' with
   |some t'=>rw[(hE s' t' yz).2.2] at yJ;exact wO s hs b hb t' yJ s' yz|none=>exact qE s s' hs yz hI b hb yJ
 ·intro s b hb
  cases hs:σ s with
  |some t=>
   rw[(hE s t hs).2.2] at hb;have:=h.own t b hb;exact⟨bH this.1 hw,this.2⟩
  |none=>
   rcases ho s hs b hb with⟨t,h1,_⟩|⟨h1,h2⟩
   ·have:=h.own t b h1;exact⟨bH this.1 hw,this.2⟩
   ·exact⟨h2,fun hp=>absurd (h.frz b hp).1 (by omega),.inr (bF h.size h1)⟩
 ·intro b hb;have:=h.frz b hb;exact⟨bH this.1 hw,this.2⟩
 ·intro b hb hu;rw[hk b (bH hb h.size) fun t jz=>?_]
  ·exact h.kept b hb hu
  ·rcases(h.own t b jz).2.2 with h1|h1
   ·exact absurd h1 hu
   ·omega
theorem Conf.step(h:Conf w0 U Φ0 w Φ rv E L)(σ:Nat->ON)(f:PV->PV)(g:Nat)(hf:Tame f)
  (hσ:∀ s s' t,σ s=some t->σ s'=some t->s=s')
  (hE:∀ s t,σ s=some t->E' s=(E t).mapW f/\rv' s=rv t/\L' s=L t)
  (hN:∀ s,σ s=none->Rep w' Φ (zBb w' rv' E') (E' s) (rv' s) (L' s)/\(s≠g->L' s=[]))
  (hA:∀ a v,a.isWay=true->zBb w rv E a v->Rep w' Φ (zBb w' rv' E') (f a) v [])
  (hd:σ g=none->(L' g).Nodup) (ho:σ g=none->∀ b∈L' g,(∃ t,b∈L t/\∀ s,σ s≠some t)\/(w.heap.size<=b/\b<w'.heap.size))
  (hw:w.heap.size<=w'.heap.size) (hk:∀ b,b<w.heap.size->(∀ t,b∈L t->∃ s,σ s=some t)->w'.heap[b]? = w.heap[b]?)
  (u7:w'.os=w.os/\w'.tape=w.tape/\w'.output=w.output):Conf w0 U Φ0 w' Φ rv' E' L':=by
 refine h.step2 σ f hf hσ hE (fun s hs=>(hN s hs).1) hA (fun s hs=>?_) (fun s s' hs yz hI b hb yJ=>?_) (fun s hs b hb=>?_) hw hk u7
 ·by_cases yn:s=g
  ·subst yn;exact hd hs
  ·rw[(hN s hs).2 yn];exact b4
 ·by_cases yn:s=g
  ·rw[(hN s' yz).2 (by rw[<- yn];exact dA hI)] at yJ;cases yJ
  ·rw[(hN s hs).2 yn] at hb;cases hb
 ·by_cases yn:s=g
  ·subst yn;exact ho hs b hb
  ·rw[(hN s hs).2 yn] at hb;cases hb
theorem Conf.turn(h:Conf w0 U Φ0 w Φ rv E L)(σ:Nat->ON)(f:PV->PV)(hf:Tame f)
  (hσ:∀ s s' t,σ s=some t->σ s'=some t->s=s')
  (hE:∀ s t,σ s=some t->E' s=(E t).mapW f/\rv' s=rv t/\L' s=L t)
  (hN:∀ s,σ s=none->E' s = .bad/\L' s=[])
  (hA:∀ a v,a.isWay=true->zBb w rv E a v->Rep w Φ (zBb w rv' E') (f a) v []):Conf w0 U Φ0 w Φ rv' E' L':=by
 refine h.step σ f 0 hf hσ hE (fun s hs=>?_) hA (fun hs=>?_) (fun hs=>?_) (bi _) (fun _ _ _=>rfl) ⟨rfl,rfl,rfl⟩
 ·obtain⟨h1,h2⟩:=hN s hs;rw[h1,h2];exact⟨rfl,fun _=>rfl⟩
 ·rw[(hN _ hs).2];exact b4
 ·rw[(hN _ hs).2];simp
theorem zCw:Tame (fun x=>x):=⟨fun _=>rfl,fun p h=>by cases p<;>first|rfl|cases h⟩
theorem zDM{f:PV->PV}(h:∀ p,f p=p\/(p.isWay=true/\f p = .bad)):Tame f:=by
 refine⟨fun p=>?_,fun p hp=>?_⟩
 ·rcases h p with h|⟨h1,h2⟩
  ·rw[h]
  ·rw[h2];cases p<;>first|rfl|cases h1
 ·rcases h p with h|⟨h1,h2⟩
  ·rw[h];cases p<;>first|rfl|cases hp
  ·rw[h2];rfl
theorem zG6(r:Nat)(pre:zA4)(p:PV):lose r pre p=p\/(p.isWay=true/\lose r pre p = .bad):=by
 cases p<;>first|exact .inl rfl|skip
 all_goals
  simp only[Eng.lose,PV.isWay,true_and];cases (beq _ r&&_)<;>simp
theorem zQ5{r:Nat}{p:PV}{v:Value}(h:p.isWay=true)(hl:lose r [] p=p)(ha:zBb w rv E p v):(zBf p).1≠r:=by
 intro hr;cases p<;>first|cases h|skip
 case log=>exact False.elim ha
 all_goals
  simp only[zBf] at hr;subst hr;simp[Eng.lose] at hl
theorem Conf.take(h:Conf w0 U Φ0 w Φ rv E L){s g:Nat}(hs:s<zAa)(hg:zAa<=g):Conf w0 U Φ0 w Φ (upd rv g (rv s)) (upd (upd E s .bad) g (E s)) (upd (upd L s []) g (L s)):=by
 have yn:s≠g:=by omega
 refine h.turn (fun t=>if t=g then some s else if t=s then none else some t) (fun x=>x) zCw ?_ ?_ ?_ ?_
 ·intro a b t ha hb;split at ha<;>split at hb<;>simp_all<;>split at ha<;>simp_all
  all_goals (try split at hb)<;>simp_all
 ·intro a t ha;split at ha
  ·rename_i e;cases ha;subst e;simp[zAi,zBq]
  ·rename_i e;split at ha
   ·cases ha
   ·rename_i e2;cases ha;simp[zAf e,zAf e2,zBq]
 ·intro a ha;split at ha
  ·cases ha
  ·rename_i e;split at ha
   ·rename_i e2;subst e2;simp[zAf e,zAi]
   ·cases ha
 ·intro a v hw ha;have hr:(zBf a).1<zAa:=zC7 ha;refine zDb hw ?_;by_cases jP:(zBf a).1=s
  ·refine zMd ha ?_;rw[zAf (by omega),jP,zAi];rfl
  ·refine zCX h zCw ha ?_ ?_ (fun _ _=>rfl)
   ·rw[zAf (by omega),zAf jP,zBq]
   ·rw[zAf (by omega)]
theorem Conf.lay(h:Conf w0 U Φ0 w Φ rv E L){d g:Nat}(hd:d<zAa)(hg:zAa<=g):Conf w0 U Φ0 w Φ (upd rv d (rv g)) (upd (upd (fun s=>(E s).mapW (lose d [])) d ((E g).mapW (lose d []))) g .bad) (upd (upd L d (L g)) g []):=by
 have vI:d≠g:=by omega
 refine h.turn (fun t=>if t=g then none else if t=d then some g else some t) (lose d []) (zDM (zG6 d [])) ?_ ?_ ?_ ?_
 ·intro a b t ha hb;split at ha<;>split at hb<;>simp_all<;>split at ha<;>simp_all
  all_goals (try split at hb)<;>simp_all
 ·intro a t ha;split at ha
  ·cases ha
  ·rename_i e;split at ha
   ·rename_i e2;cases ha;subst e2;simp[zAf e,zAi]
   ·rename_i e2;cases ha;simp[zAf e,zAf e2]
 ·intro a ha;split at ha
  ·rename_i e;subst e;simp[zAi]
  ·split at ha<;>cases ha
 ·intro a v hw ha;have hr:(zBf a).1<zAa:=zC7 ha;rcases zG6 d [] a with hl|⟨_,hl⟩
  ·rw[hl];have hI:=zQ5 hw hl ha;refine zDb hw (zCX h (zDM (zG6 d [])) ha ?_ ?_ (fun _ _=>rfl))
   ·rw[zAf (by omega),zAf hI]
   ·rw[zAf hI]
  ·rw[hl];rfl
theorem Conf.lose(h:Conf w0 U Φ0 w Φ rv E L){f:PV->PV}(hf:∀ p,f p=p\/(p.isWay=true/\f p = .bad)):Conf w0 U Φ0 w Φ rv (fun s=>(E s).mapW f) L:=by
 refine h.turn some f (zDM hf) (fun a b t ha hb=>by cases ha;cases hb;rfl) (fun a t ha=>by cases ha;exact⟨rfl,rfl,rfl⟩) (fun a ha=>by cases ha) fun a v hw ha=>?_;rcases hf a with hl|⟨_,hl⟩
 ·rw[hl];exact zDb hw (zCX h (zDM hf) ha rfl rfl (fun _ _=>rfl))
 ·rw[hl];rfl
theorem Conf.drop(h:Conf w0 U Φ0 w Φ rv E L)(D:Nat->Bool):Conf w0 U Φ0 w Φ rv (fun s=>if D s then .bad else E s) (fun s=>if D s then[] else L s):=by
 refine h.turn (fun s=>if D s then none else some s) (fun x=>x) zCw ?_ ?_ ?_ ?_
 ·intro a b t ha hb;split at ha<;>split at hb<;>simp_all
 ·intro a t ha;split at ha
  ·cases ha
  ·rename_i e;cases ha;simp[e,zBq]
 ·intro a ha;split at ha
  ·rename_i e;simp[e]
  ·cases ha
 ·intro a v hw ha;refine zDb hw ?_;by_cases hd:D (zBf a).1=true
  ·exact zMd ha (by simp[hd];rfl)
  ·exact zCX h zCw ha (by simp[hd,zBq]) rfl (fun _ _=>rfl)
theorem Conf.hold(h:Conf w0 U Φ0 w Φ rv E L){g:Nat}(hg:zAa<=g){p:PV}{v:Value}(hr:Rep w Φ (zBb w rv E) p v []) :
  Conf w0 U Φ0 w Φ (upd rv g v) (upd E g p) (upd L g []):=by
 have hA:∀ a u,a.isWay=true->zBb w rv E a u->zBb w (upd rv g v) (upd E g p) a u:=by
  intro a u _ ha;have:=zC7 ha;exact zCX h zCw ha (by rw[zAf (by omega),zBq]) (by rw[zAf (by omega)]) (fun _ _=>rfl)
 refine h.step (fun s=>if s=g then none else some s) (fun x=>x) g zCw ?_ ?_ ?_ (fun a u hw ha=>zDb hw (hA a u hw ha)) (fun _=>?_) (fun _=>?_) (bi _) (fun _ _ _=>rfl) ⟨rfl,rfl,rfl⟩
 ·intro a b t ha hb;split at ha<;>split at hb<;>simp_all
 ·intro a t ha;split at ha
  ·cases ha
  ·rename_i e;cases ha;simp[zAf e,zBq]
 ·intro a ha;split at ha
  ·rename_i e;subst e;rw[zAi,zAi,zAi];exact⟨hr.mono zDq.refl hA (by simp),fun h=>absurd rfl h⟩
  ·cases ha
 ·rw[zAi];exact b4
 ·rw[zAi];simp
theorem Conf.make(h:Conf w0 U Φ0 w Φ rv E L){w':World}(G:Nat->Bool)(hG:∀ s,G s=true->zAa<=s){g:Nat}(hg:zAa<=g){p:PV}{v:Value}{Lp:LN}
  (hr:∀ A:Al,(∀ a u,a.isWay=true->zBb w rv E a u->A a u)->Rep w' Φ A p v Lp) (hd:Lp.Nodup)
  (ho:∀ b∈Lp,(∃ t,b∈L t/\G t=true)\/(w.heap.size<=b/\b<w'.heap.size))
  (hw:w.heap.size<=w'.heap.size) (hk:∀ b,b<w.heap.size->(∀ t,b∈L t->G t=false)->w'.heap[b]? = w.heap[b]?)
  (u7:w'.os=w.os/\w'.tape=w.tape/\w'.output=w.output) :
  Conf w0 U Φ0 w' Φ (upd rv g v) (upd (fun s=>if G s then .bad else E s) g p) (upd (fun s=>if G s then[] else L s) g Lp):=by
 have hA:∀ a u,a.isWay=true->zBb w rv E a u->zBb w' (upd rv g v) (upd (fun s=>if G s then .bad else E s) g p) a u:=by
  intro a u _ ha;have yL:=zC7 ha;have hI:(zBf a).1≠g:=by omega
  have hGn:G (zBf a).1=false:=by
   cases hb:G (zBf a).1 with
   |false=>rfl|true=>have:=hG _ hb;omega
  refine zCX h zCw ha (by rw[zAf hI];simp[hGn,zBq]) (by rw[zAf hI]) fun b hb=>hk b (h.own _ b hb).1 fun t ht=>?_;have:t=(zBf a).1:=cA fun hn=>h.disj t _ hn b ht hb;rw[this];exact hGn
 refine h.step (fun s=>if s=g then none else if G s then none else some s) (fun x=>x) g zCw ?_ ?_ ?_ (fun a u hw ha=>zDb hw (hA a u hw ha)) (fun _=>?_) (fun _=>?_) hw ?_ u7
 ·intro a b t ha hb;split at ha<;>split at hb<;>simp_all
 ·intro a t ha;split at ha
  ·cases ha
  ·rename_i e;split at ha
   ·cases ha
   ·rename_i e2;cases ha;simp[zAf e,zBq,e2]
 ·intro a ha;split at ha
  ·rename_i e;subst e;rw[zAi,zAi,zAi];exact⟨hr _ hA,fun h=>absurd rfl h⟩
  ·rename_i e;split at ha
   ·rename_i e2;rw[zAf e,zAf e,zAf e];exact⟨by simp[e2,Rep],fun _=>by simp[e2]⟩
   ·cases ha
 ·rw[zAi];exact hd
 ·rw[zAi];intro b hb;rcases ho b hb with⟨t,h1,h2⟩|h1
  ·refine .inl ⟨t,h1,fun s hs=>?_⟩;split at hs
   ·cases hs
   ·split at hs
    ·cases hs
    ·rename_i e2;cases hs;exact e2 h2
  ·exact .inr h1
 ·intro b hb hc;refine hk b hb fun t ht=>?_;obtain⟨s,hs⟩:=hc t ht;split at hs
  ·cases hs
  ·split at hs
   ·cases hs
   ·rename_i e2;cases hs;simpa using e2
theorem zCv.trans{p q r:PV}(h1:zCv p q)(h2:zCv q r):zCv p r:=by
 cases p<;>cases q<;>simp only[zCv] at h1<;>cases r<;>simp_all[zCv]
theorem zNi{A A':Al}(hA:∀ a v,a.isWay=true->A a v->A' a v):∀ {pre:zA4} {p:PV},∀ a v,a.isWay=true->zI0 A p pre a v->zI0 A' p pre a v
 |[],p,a,v,hw,h=>hA a v hw h
 | (i,c)::rest,p,a,v,hw,h=>by
  simp only[zI0] at h ⊢
  cases hc:Eng.child p i c with
  |none=>rw[hc] at h;exact h.elim|some q=>
   rw[hc] at h;exact zNi (zLi hA) a v hw h
def stays(f:PV->PV)(A:Al):Al:=fun a v=>A a v/\f a=a
theorem Conf.stays(h:Conf w0 U Φ0 w Φ rv E L){f:PV->PV}(hf:∀ p,f p=p\/(p.isWay=true/\f p = .bad))(s:Nat):Rep w Φ (stays f (zBb w rv E)) ((E s).mapW f) (rv s) (L s):=by
 refine Rep.map (zDM hf).agg zDq.refl (fun a v hw ha=>?_) _ _ _ (fun _ _=>rfl) (h.rep s);rcases hf a with hl|⟨_,hl⟩
 ·rw[hl];exact zDb hw ⟨ha,hl⟩
 ·rw[hl];rfl
theorem Conf.mod(h:Conf w0 U Φ0 w Φ rv E L){r:Nat}(hr:r<zAa){f:PV->PV}(hf:∀ p,f p=p\/(p.isWay=true/\f p = .bad)){pre:zA4}{q:PV}
  (j1:((E r).mapW f).unlock=(E r).mapW f) (hn:zAC ((E r).mapW f) pre=some q) :
  ∃ nv Li,zA3 w (rv r) ((E r).mapW f) pre=some (nv,q)/\Rep w Φ (zI0 (Eng.stays f (zBb w rv E)) ((E r).mapW f) pre) q nv Li/\Li.Nodup/\(∀ b∈Li,b∈L r) /\
   ∀ (G:Nat->Bool) (w':World) (q' root':PV) (Li':LN),(∀ s,G s=true->zAa<=s)->(pre≠[]->q'.isAgg=q.isAgg)->zAz (fun _=>some q') ((E r).mapW f) pre=some root'->root'.unlock=root' ->
    (∀ A:Al,(∀ a u,a.isWay=true->Eng.stays f (zBb w rv E) a u->A a u)->Rep w' Φ (zI0 A ((E r).mapW f) pre) q' nv Li')->Li'.Nodup ->
    (∀ b∈Li',b∈Li\/(∃ t,b∈L t/\G t=true)\/(w.heap.size<=b/\b<w'.heap.size))->w.heap.size<=w'.heap.size ->
    (∀ b,b<w.heap.size->b∉Li->(∀ t,b∈L t->G t=false)->w'.heap[b]? = w.heap[b]?) ->
    (∀ rest nv2 np2,zA3 w' nv q' rest=some (nv2,np2)->np2.heavy0=true->(∀ a,a.isWay=true->zBf a=(r,pre++rest)->f a≠a)\/∃ np0,zA3 w nv q rest=some (nv2,np0)/\zCv np0 np2) ->
    (w'.os=w.os/\w'.tape=w.tape/\w'.output=w.output) ->
    ∃ L',(∀ s,s≠r->L' s=if G s then[] else L s)/\Conf w0 U Φ0 w' Φ rv (fun s=>if s=r then root' else if G s then .bad else(E s).mapW f) L':=by
 have hs:=h.stays hf r;obtain⟨nv,La,Li,Lb,ug,hL,hX,wP,uf⟩:=Rep.zip pre hs hn;have yV:=h.nodup r;rw[hL] at yV;have hnd1:∀ b∈La++Lb,b∉Li:=by
  intro b hb uh;simp only[bI] at yV;rcases bg.1 hb with hb|hb
  ·exact yV.1.2.2 b hb b uh rfl
  ·exact yV.2.2 b (by simp[uh]) b hb rfl
 refine⟨nv,Li,ug,hX,?_,fun b hb=>by rw[hL];simp[hb],?_⟩
 ·simp only[bI] at yV;exact yV.1.2.1
 intro G w' q' root' Li' hG jC hm yF hR hd ho hw hk jk u7;have hkL:∀ t,G t=false->∀ b∈L t,b∉Li->w'.heap[b]? = w.heap[b]?:=by
  intro t ht b hb uh;refine hk b (h.own t b hb).1 uh fun t' ht'=>?_;have:t'=t:=cA fun hI=>h.disj t' t hI b ht' hb;rw[this];exact ht
 have hGr:G r=false:=by
  cases hb:G r with
  |false=>rfl|true=>have:=hG _ hb;omega
 have hbLL:∀ b∈La++Lb,w'.heap[b]? = w.heap[b]?:=by
  intro b hb;exact hkL r hGr b (by rw[hL];simp at hb ⊢;rcases hb with h|h<;>simp[h]) (hnd1 b hb)
 have hLiL:∀ t,t≠r->∀ b∈L t,b∉Li:=by
  intro t hI b hb uh;exact h.disj t r hI b hb (by rw[hL];simp[uh])
 have hA : ∀ a u,a.isWay=true->zBb w rv E a u->f a=a->zBb w' rv (fun s=>if s=r then root' else if G s then .bad else(E s).mapW f) a u:=by
  intro a u uG ha hfa;have yL:=zC7 ha;by_cases ui:(zBf a).1=r
  ·refine ha.mono fun nv2 np2 j9 hh=>?_;simp only[ui,if_true] at j9 ⊢;rw[yF] at j9;have back:∀ np0,zA3 w (rv r) ((E r).mapW f) (zBf a).2=some (nv2,np0)->zCv np0 np2->∃ np0,zA3 w (rv r) (E r).unlock (zBf a).2=some (nv2,np0)/\zCv np0 np2:=by
    intro np0 h1 h2;rw[<- j1,zDN (zDM hf)] at h1;obtain⟨np1,h3,h4⟩:=zDc (zDM hf) h1 (zDV h2);exact⟨np1,h3,h4.trans h2⟩
   rcases uf w' q' root' hbLL jC hm _ nv2 np2 j9 hh with⟨rest,h1,h2⟩|⟨np0,h1,h2⟩
   ·rcases jk rest nv2 np2 h2 hh with h3|⟨np0,h3,h4⟩
    ·exact absurd hfa (h3 a uG (Prod.ext ui h1))
    ·refine back np0 ?_ h4;rw[h1,zDw,ug];exact h3
   ·exact back np0 h1 h2
  ·have hGa:G (zBf a).1=false:=by
    cases hb:G (zBf a).1 with
    |false=>rfl|true=>have:=hG _ hb;omega
   exact zCX h (zDM hf) ha (by simp[ui,hGa]) rfl fun b hb=>hkL _ hGa b hb (hLiL _ ui b hb)
 have hA':∀ a u,a.isWay=true->zBb w rv E a u->Rep w' Φ (zBb w' rv (fun s=>if s=r then root' else if G s then .bad else(E s).mapW f)) (f a) u []:=by
  intro a u uG ha;rcases hf a with hl|⟨_,hl⟩
  ·rw[hl];exact zDb uG (hA a u uG ha hl)
  ·rw[hl];rfl
 have hΦ:zDq w w' Φ Φ:=fun b hb=>⟨hb,hk b (h.frz b hb).1 (fun uh=>(h.own r b (by rw[hL];simp[uh])).2.1 hb) fun t jz=>absurd hb (h.own t b jz).2.1⟩;refine⟨fun s=>if s=r then La++Li'++Lb else if G s then[] else L s,fun s yW=>by simp[yW],?_⟩;refine h.step (fun s=>if s=r then none else if G s then none else some s) f r (zDM hf) ?_ ?_ ?_ hA' (fun _=>?_) (fun _=>?_) hw ?_ u7
 ·intro a b t ha hb;split at ha<;>split at hb<;>simp_all
 ·intro a t ha;split at ha
  ·cases ha
  ·rename_i e;split at ha
   ·cases ha
   ·rename_i e2;cases ha;simp[e,e2]
 ·intro a ha;by_cases e:a=r
  ·subst e;simp only[if_true];exact⟨wP w' Φ _ q' Li' root' (fun a u uG ha=>hA a u uG ha.1 ha.2) hΦ hbLL jC (hR _ fun a u uG ha=>hA a u uG ha.1 ha.2) hm,fun h=>absurd rfl h⟩
  ·simp only[e,if_false] at ha ⊢;split at ha
   ·rename_i e2;exact⟨by simp[e2,Rep],fun _=>by simp[e2]⟩
   ·cases ha
 ·simp only[if_true];simp only[bI] at yV ⊢;have hx:∀ b∈Li',b∈La++Lb->False:=by
   intro b hb jS;have qF:b∈L r:=by rw[hL];simp at jS ⊢;rcases jS with h|h<;>simp[h]
   rcases ho b hb with h1|⟨t,h1,h2⟩|h1
   ·exact hnd1 b jS h1
   ·have:t≠r:=fun e=>by rw[e,hGr] at h2;cases h2
    exact h.disj t r this b h1 qF
   ·have:=(h.own r b qF).1;omega
  refine⟨⟨yV.1.1,hd,fun a ha b hb e=>hx b hb (by subst e;simp[ha])⟩,yV.2.1,fun a ha b hb e=>?_⟩;subst e;rcases bg.1 ha with ha|ha
  ·exact yV.2.2 a (by simp[ha]) a hb rfl
  ·exact hx a ha (by simp[hb])
 ·simp only[if_true];intro b hb;have yX:∀ t,t=r\/G t=true->∀ s,(if s=r then none else if G s then none else some s)≠some t:=by
   intro t ht s hs;split at hs
   ·cases hs
   ·rename_i e;split at hs
    ·cases hs
    ·rename_i e2;cases hs;rcases ht with h|h
     ·exact e h
     ·exact e2 h
  rcases bg.1 hb with hb|hb
  ·rcases bg.1 hb with hb|hb
   ·exact .inl ⟨r,by rw[hL];simp[hb],yX r (.inl rfl)⟩
   ·rcases ho b hb with h1|⟨t,h1,h2⟩|h1
    ·exact .inl ⟨r,by rw[hL];simp[h1],yX r (.inl rfl)⟩
    ·exact .inl ⟨t,h1,yX t (.inr h2)⟩
    ·exact .inr h1
  ·exact .inl ⟨r,by rw[hL];simp[hb],yX r (.inl rfl)⟩
 ·intro b hb hc;have jA:b∉L r:=by
   intro qF;obtain⟨s,hs⟩:=hc r qF;split at hs
   ·cases hs
   ·rename_i e;split at hs
    ·cases hs
    ·cases hs;exact e rfl
  refine hk b hb (fun uh=>jA (by rw[hL];simp[uh])) fun t ht=>?_;obtain⟨s,hs⟩:=hc t ht;split at hs
  ·cases hs
  ·split at hs
   ·cases hs
   ·rename_i e2;cases hs;simpa using e2
theorem Conf.takeNode(h:Conf w0 U Φ0 w Φ rv E L){r g:Nat}(hr:r<zAa)(hg:zAa<=g){pre:zA4}{q root':PV}(j1:(E r).unlock=E r)(hn:zAC (E r) pre=some q)(jC:q.isAgg=false)
  (hm:zAz (fun _=>some .bad) (E r) pre=some root') (yF:root'.unlock=root') :
  ∃ nv Li,zA3 w (rv r) (E r) pre=some (nv,q)/\Rep w Φ (zBb w rv E) q nv Li/\Li.Nodup/\(∀ b∈Li,b∈L r)/\∀ (p':PV) (v':Value) (Lg:LN),Rep w Φ (zBb w rv E) p' v' Lg->Lg.Nodup->(∀ b∈Lg,b∈Li\/b∈L g) ->
   ∃ L',Conf w0 U Φ0 w Φ (upd rv g v') (upd (upd E r root') g p') L'/\∀ s,s≠r->s≠g->L' s=L s:=by
 have j2:r≠g:=by omega
 obtain⟨nv,La,Li,Lb,ug,hL,hX,wP,uf⟩:=Rep.zip pre (h.rep r) hn;have yV:=h.nodup r;rw[hL] at yV;simp only[bI] at yV;have yg:∀ b,b∈La++Lb->b∈L r:=fun b hb=>by rw[hL];simp at hb ⊢;rcases hb with h|h<;>simp[h]
 have gC:∀ b∈Li,b∈L r:=fun b hb=>by rw[hL];simp[hb]
 have ve:∀ b∈Li,b∉La++Lb:=by
  intro b hb jS;rcases bg.1 jS with h2|h2
  ·exact yV.1.2.2 b h2 b hb rfl
  ·exact yV.2.2 b (by simp[hb]) b h2 rfl
 refine⟨nv,Li,ug,hX.mono zDq.refl (fun _ _ _ h=>zEO h) (fun _ _=>rfl),yV.1.2.1,gC,fun p' v' Lg jq hLg hLgm=>?_⟩;have gD:∀ b∈Lg,b∉La++Lb:=by
  intro b hb jS;rcases hLgm b hb with h1|h1
  ·exact ve b h1 jS
  ·exact h.disj r g j2 b (yg b jS) h1
 have hA:∀ a u,a.isWay=true->zBb w rv E a u->zBb w (upd rv g v') (upd (upd E r root') g p') a u:=by
  intro a u uG ha;have yL:=zC7 ha;by_cases ui:(zBf a).1=r
  ·refine ha.mono fun nv2 np2 j9 hh=>?_;rw[ui] at j9 ⊢;rw[zAf j2,zAf j2,zAi,yF] at j9;rcases uf w .bad root' (fun _ _=>rfl) (fun _=>jC.symm) hm _ nv2 np2 j9 hh with⟨rest,h1,h2⟩|⟨np0,h1,h2⟩
   ·cases rest with
    |nil=>simp only[zA3,ba,bw] at h2;rw[<- h2.2] at hh;cases hh|cons x rest=>obtain⟨i,c⟩:=x;rw[zBc] at h2;simp[Eng.child,zA9] at h2
   ·rw[j1];exact⟨np0,h1,h2⟩
  ·exact zCX h zCw ha (by rw[zAf (by omega),zAf ui,zBq]) (by rw[zAf (by omega)]) (fun _ _=>rfl)
 refine⟨upd (upd L r (La++Lb)) g Lg,?_,fun s h1 h2=>by rw[zAf h2,zAf h1]⟩;refine h.step2 (fun s=>if s=r then none else if s=g then none else some s) (fun x=>x) zCw ?_ ?_ ?_ (fun a u uG ha=>zDb uG (hA a u uG ha)) ?_ ?_ ?_ (bi _) (fun _ _ _=>rfl) ⟨rfl,rfl,rfl⟩
 ·intro a b t ha hb;split at ha<;>split at hb<;>simp_all
 ·intro a t ha;split at ha
  ·cases ha
  ·rename_i e1;split at ha
   ·cases ha
   ·rename_i e2;cases ha;simp[zAf e1,zAf e2,zBq]
 ·intro a ha;by_cases e1:a=r
  ·subst e1;rw[zAf j2,zAf j2,zAf j2,zAi,zAi];have:=wP w Φ (zBb w (upd rv g v') (upd (upd E a root') g p')) .bad [] root' hA zDq.refl (fun _ _=>rfl) (fun _=>jC.symm) rfl hm;simpa using this
  ·have e2:a=g:=by
    rw[if_neg e1] at ha;by_cases e2:a=g
    ·exact e2
    ·rw[if_neg e2] at ha;cases ha
   subst e2;rw[zAi,zAi,zAi];exact jq.mono zDq.refl (fun a u hw h=>hA a u hw h) (fun _ _=>rfl)
 ·intro a ha;by_cases e1:a=r
  ·subst e1;rw[zAf j2,zAi,bI];exact⟨yV.1.1,yV.2.1,fun x hx y hy e=>yV.2.2 x (by simp[hx]) y hy e⟩
  ·rw[if_neg e1] at ha;by_cases e2:a=g
   ·subst e2;rw[zAi];exact hLg
   ·rw[if_neg e2] at ha;cases ha
 ·intro s s' hs yz hI b hb yJ;have uH:s=r\/s=g:=by by_cases e1:s=r;exact .inl e1;rw[if_neg e1] at hs;by_cases e2:s=g;exact .inr e2;rw[if_neg e2] at hs;cases hs
  have hs2':s'=r\/s'=g:=by by_cases e1:s'=r;exact .inl e1;rw[if_neg e1] at yz;by_cases e2:s'=g;exact .inr e2;rw[if_neg e2] at yz;cases yz
  rcases uH with rfl|rfl<;>rcases hs2' with rfl|rfl
  ·exact hI rfl
  ·rw[zAf j2,zAi] at hb;rw[zAi] at yJ;exact gD b yJ hb
  ·rw[zAi] at hb;rw[zAf j2,zAi] at yJ;exact gD b hb yJ
  ·exact hI rfl
 ·intro s hs b hb;have uH:s=r\/s=g:=by by_cases e1:s=r;exact .inl e1;rw[if_neg e1] at hs;by_cases e2:s=g;exact .inr e2;rw[if_neg e2] at hs;cases hs
  have jA:∀ t,t=r\/t=g->∀ x,(if x=r then none else if x=g then none else some x)≠some t:=by
   intro t ht x hx;split at hx
   ·cases hx
   ·rename_i e1;split at hx
    ·cases hx
    ·rename_i e2;cases hx;rcases ht with h|h<;>contradiction
  rcases uH with rfl|rfl
  ·rw[zAf j2,zAi] at hb;exact .inl ⟨s,yg b hb,jA s (.inl rfl)⟩
  ·rw[zAi] at hb;rcases hLgm b hb with h1|h1
   ·exact .inl ⟨r,gC b h1,jA r (.inl rfl)⟩
   ·exact .inl ⟨s,h1,jA s (.inr rfl)⟩
end
end
end Go.Eng
namespace Go.Eng
open Go
theorem zBw:∀ ps:List PV,(zAt ps).length=ps.length
 |[]=>rfl|p::ps=>by simp[zAt,zBw ps]
theorem zKm:∀ (ps:List PV) (i:Nat),(zAt ps)[i]? = (ps[i]?).map zA2
 |[],i=>by simp[zAt]|p::ps,0=>by simp[zAt]|p::ps,i+1=>by simp only[zAt,fb];exact zKm ps i
theorem zCK:∀ ps:List PV,zAt ps=ps.map zA2
 |[]=>rfl|p::ps=>by simp[zAt,zCK ps]
theorem zDk(p:PV):(zA2 p).isAgg=p.isAgg:=by cases p<;>rfl
theorem zNb(p:PV):(zA2 p).cells=zAt p.cells:=by cases p<;>rfl
theorem zDm(p:PV):(zA2 p).cells.length=p.cells.length:=by rw[zNb,zBw]
theorem zHD(ps:List PV):(zAt ps).map PV.isAgg=ps.map PV.isAgg:=by
 rw[zCK,fT];exact dJ fun p _=>zDk p
section
variable {w:World} {Φ Φ':Nat->Prop}
mutual
theorem zEh{A:Al}(hΦ:∀ b,Φ b->Φ' b):∀ (p:PV) (v:Value) (L:LN),(∀ b∈L,Φ' b)->Rep w Φ A p v L->Rep w Φ' A (zA2 p) v []
 | .own sz xs,v,L,hL,h=>by
  obtain⟨h1,h2,h3⟩|⟨a,n,c,us,L',rfl,h1,h2,h3,h4,h5,h6,h7,h8,h9⟩:=h
  ·subst h1;exact⟨rfl,.inl ⟨rfl,none,0,h3,fun _=>rfl⟩⟩
  ·refine⟨rfl,.inr ⟨a,n,c,us,sz,by rw[zBw];exact h1,h2,by rw[zBw];exact h3,hL _ (by simp),h4.any,?_,⟨h7.1,by rw[zHD];exact h7.2⟩,by rw[zBw];exact h8,?_⟩⟩
   ·intro x hx;rw[zCK] at hx;obtain⟨y,hy,rfl⟩:=bT.1 hx;rw[zDm];exact h6 y hy
   ·exact zDC hΦ xs us L' (fun b hb=>hL b (by simp[hb])) h9
 |.box q,v,L,hL,h=>by
  obtain⟨a,c,u,L',rfl,h1,h2,h4,h5,h6,h7⟩:=h;exact⟨rfl,a,c,u,h1,h2,hL _ (by simp),h4.any,by rw[zDm];exact h5,by rw[zDm,zDk];exact h6,zEh hΦ q u L' (fun b hb=>hL b (by simp[hb])) h7⟩
 |.omap es,v,L,hL,h=>by
  obtain⟨b,ents,rfl,h1,h3,h4⟩:=h;exact⟨rfl,b,ents,h1,hL _ (by simp),h3,zD6.same (fun b hb=>⟨hΦ b hb,rfl⟩) es _ _ h4⟩
 |.agg cs,v,L,hL,h=>by
  obtain⟨vs,rfl,h⟩:=h;exact⟨vs,rfl,zDC hΦ cs _ L hL h⟩
 |.tup _,_,_,_,_=>rfl|.lock _,_,_,_,_=>rfl|.bad,_,_,_,_=>rfl|.und,_,_,_,h=>⟨h.1,rfl⟩|.int ..,_,_,_,h=>⟨h.1,rfl⟩|.bool _,_,_,_,h=>⟨h.1,rfl⟩|.nilp,_,_,_,h=>⟨h.1,rfl⟩|.nilf,_,_,_,h=>⟨h.1,rfl⟩|.nilm,_,_,_,h=>⟨h.1,rfl⟩|.nn,_,_,_,h=>⟨rfl,h.2⟩|.nils _,_,_,_,h=>⟨h.1,rfl⟩|.sl xs,v,L,_,h=>by have h0:=h.1;subst h0;exact h.mono (fun b hb=>⟨hΦ b hb,rfl⟩) (fun _ _ _ h=>h) (fun _ _=>rfl)
 |.ref q,v,L,_,h=>by have h0:=h.1;subst h0;exact h.mono (fun b hb=>⟨hΦ b hb,rfl⟩) (fun _ _ _ h=>h) (fun _ _=>rfl)
 |.map es,v,L,_,h=>by have h0:=h.1;subst h0;exact h.mono (fun b hb=>⟨hΦ b hb,rfl⟩) (fun _ _ _ h=>h) (fun _ _=>rfl)
 |.func _ _ _,v,L,_,h=>by have h0:=h.1;subst h0;exact h.mono (fun b hb=>⟨hΦ b hb,rfl⟩) (fun _ _ _ h=>h) (fun _ _=>rfl)
 |.addr ..,_,_,_,h=>⟨rfl,h.2⟩|.bor ..,_,_,_,h=>⟨rfl,h.2⟩|.bsl ..,_,_,_,h=>⟨rfl,h.2⟩|.bmap ..,_,_,_,h=>⟨rfl,h.2⟩|.yld _,_,_,_,h=>⟨rfl,h.2⟩|.log ..,_,_,_,h=>⟨rfl,h.2⟩
theorem zDC{A:Al}(hΦ:∀ b,Φ b->Φ' b):∀ (ps:List PV) (vs:List Value) (L:LN),(∀ b∈L,Φ' b)->zBa w Φ A ps vs L->zBa w Φ' A (zAt ps) vs []
 |[],_,_,_,h=>⟨h.1,rfl⟩|p::ps,vs,L,hL,h=>by
  obtain⟨v,vs',L1,L2,rfl,rfl,h1,h2⟩:=h;exact⟨v,vs',[],[],rfl,rfl,zEh hΦ p v L1 (fun b hb=>hL b (by simp[hb])) h1,zDC hΦ ps vs' L2 (fun b hb=>hL b (by simp[hb])) h2⟩
end
theorem zIF:∀ {pre:zA4} {p:PV} {v nv:Value} {np:PV},zA3 w v (zA2 p) pre=some (nv,np)->np.heavy0=false
 |[],p,v,nv,np,h=>by
  simp only[zA3,ba,bw] at h;obtain⟨_,rfl⟩:=h;cases p<;>rfl
 | (i, c)::rest,p,v,nv,np,h=>by
  rw[zBc] at h
  cases hc:Eng.child (zA2 p) i c with
  |none=>rw[hc] at h;cases h
  | some q =>
   rw[hc] at h;simp only[bd] at h
   cases hk:kid w v (zA2 p) i c with
   |none=>rw[hk] at h;cases h
   | some u =>
    rw[hk] at h;simp only[bd] at h;cases p<;>first|(simp[Eng.child,zA9,zA2] at hc;done)|skip
    rename_i cs
    cases i with
    |succ i=>simp[Eng.child,zA9,zA2] at hc|zero=>
     simp only[Eng.child,zA9,zA2,bd,bJ,PV.cells] at hc;rw[zKm] at hc
     cases hq:cs[c]? with
     |none=>rw[hq] at hc;cases hc|some q0=>rw[hq] at hc;simp only[bu,ba] at hc;subst hc;exact zIF h
end
theorem zFL{c:Array Value}{o n:Nat}{l:List Value}(hl:l.length=n)(h:∀ k u,l[k]? = some u->c[o+k]? = some u):seg c o n=l:=by
 apply dk;intro k;simp only[seg,ck,cf];by_cases hk:k<n
 ·rw [if_pos hk];have : ∃ u, l[k]? = some u := ⟨l[k]'(by omega), by simp [hl, hk]⟩;obtain ⟨u,hu⟩:=this;rw [hu,bO];exact h k u hu
 ·rw[if_neg hk,dp (by omega)]
section
variable {w:World} {Φ:Nat->Prop}
theorem zMb{A:Al}{np:PV}{nv:Value}{Li:LN}(h:Rep w Φ A np nv Li){xs:List PV}(hx:zBm np=some xs){i:Nat}{x:PV}(hi:xs[i]? = some x) :
  ∃ ux row ad Lx,ad.block∈Li/\ad.spot=none/\zEw w ad.block row/\(∀ b∈Lx,b∈Li)/\(∀ c,zBe nv np i c=some (zAx ad c)) /\
   (∀ c n,c+n<=x.cells.length->seg row (ad.off+c) n=(ux.cells.toList.drop c).take n)/\zCu ux=x.isAgg/\ux.cells.size=x.cells.length/\Rep w Φ (zG2 A np) x ux Lx:=by
 cases np<;>simp only[zBm] at hx<;>try cases hx
 case own sz=>
  obtain⟨h1,h2,h3⟩|⟨a,n,r,us,L',rfl,h1,h2,h3,h4,h5,h6,⟨h7,u5⟩,h8,h9⟩:=h
  ·subst h1;simp at hi
  ·obtain⟨ux,La,Lx,Lb,hu,rfl,hr,_,_⟩:=h9.split hi;have hg:zCu ux=x.isAgg:=by
    have h1:(us.map zCu)[i]? = some (zCu ux):=by simp[hu]
    have h2:(xs.map PV.isAgg)[i]? = some x.isAgg:=by simp[hi]
    rw[u5] at h1;rw[h1] at h2;simpa using h2
   have yG:ux.cells.size=x.cells.length:=by rw[h7 ux (bG hu),h6 x (bG hi)]
   subst h1;refine⟨ux,r,zAx a (i*sz),Lx,by simp[zAx],rfl,h4,fun b hb=>by simp[hb],fun c=>by simp[zBe,zAx,b7],?_,hg,yG,hr⟩;intro c m qG;refine zFL (by simp;omega) fun k u hk=>?_;simp only[ck,cf] at hk;split at hk
   ·have hf:=zDT h7 hu hk;rw[<- h8] at hf;have:=zCY hf;simp only[zAx];rw[show a.off+i*sz+c+k=a.off+(i*sz+(c+k)) by omega];exact this
   ·cases hk
 case box q0=>
  obtain⟨a,r,u0,L',rfl,h1,h2,h4,h5,⟨h6,vF⟩,h7⟩:=h;have jY:i=0:=by
   cases i with
   |zero=>rfl|succ i=>simp at hi
  subst jY;simp at hi;subst hi;subst h1;refine⟨u0,r,a,L',by simp,h2,h4,fun b hb=>by simp[hb],fun c=>rfl,?_,vF,h6,h7⟩;intro c m qG;refine zFL (by simp;omega) fun k u hk=>?_;simp only[ck,cf] at hk;split at hk
  ·have:=zCY (c:=r) (o:=a.off) (n:=q0.cells.length) (k:=c+k) (u:=u) (by rw[h5];exact hk);rw[b7];exact this
  ·cases hk
end
theorem zCD(u:Value)(us:List Value):flat (u::us)=u.cells.toList++flat us:=rfl
theorem zJm{sz:Nat}:∀ {us:List Value},(∀ u∈us,u.cells.size=sz)->∀ lo,(flat us).drop (lo*sz)=flat (us.drop lo)
 |[],_,lo=>by simp[flat]|u::us,h,0=>by simp|u::us,h,lo+1=>by
  have hu:u.cells.toList.length=sz:=by simpa using h u (by simp)
  rw[zCD,cW,iM,<- dB,List.drop_left' hu];exact zJm (fun u hu=>h u (by simp[hu])) lo
theorem zKc{sz:Nat}:∀ {us:List Value},(∀ u∈us,u.cells.size=sz)->∀ n,(flat us).take (n*sz)=flat (us.take n)
 |[],_,n=>by simp[flat]|u::us,h,0=>by simp[flat]|u::us,h,n+1=>by
  have hu:u.cells.toList.length=sz:=by simpa using h u (by simp)
  rw[d8,zCD,zCD,cW,iM,ip,bz (by omega),hu];congr 1;rw[show sz+n*sz-sz=n*sz by omega];exact zKc (fun u hu=>h u (by simp[hu])) n
theorem zBy{sz:Nat}:∀ {us:List Value},(∀ u∈us,u.cells.size=sz)->(flat us).length=us.length*sz
 |[],_=>by simp[flat]|u::us,h=>by
  have hu:u.cells.toList.length=sz:=by simpa using h u (by simp)
  rw[zCD,bA,hu,zBy (fun u hu=>h u (by simp[hu])),b9,cW,iM]
theorem zIZ{c:Array Value}{o sz m:Nat}{us:List Value}(hs:∀ u∈us,u.cells.size=sz)(hm:us.length=m)(h:seg c o (m*sz)=flat us){lo n:Nat}(hn:lo+n<=m) :
  seg c (o+lo*sz) (n*sz)=flat ((us.drop lo).take n):=by
 have h1:seg c (o+lo*sz) (n*sz)=(((seg c o (m*sz)).drop (lo*sz)).take (n*sz)):=by
  apply dk;intro k;simp only[seg,ck,cf];by_cases hk:k<n*sz
  ·have:lo*sz+n*sz<=m*sz:=by rw[<- cK];exact cS _ hn
   rw[if_pos hk,if_pos hk,if_pos (by omega),b7]
  ·rw[if_neg hk,if_neg hk]
 rw[h1,h,zJm hs,zKc (fun u hu=>hs u (cq hu))]
theorem zBa.map_isAgg{us:List Value}{xs:List PV}(h:us.map zCu=xs.map PV.isAgg)(lo n:Nat):((us.drop lo).take n).map zCu=((xs.drop lo).take n).map PV.isAgg:=by
 rw[fd,fe,h,fd,fe]
section
variable {w:World} {Φ Φ':Nat->Prop} {rv:Nat->Value} {E E':Nat->PV}
theorem zCc{A:Al}{ps:List PV}{us:List Value}(h:zBa w Φ A ps us [])(c n:Nat):zBa w Φ A ((ps.drop c).take n) ((us.drop c).take n) []:=by
 have key:∀ (ps:List PV) (us:List Value) (c n:Nat),zBa w Φ A ps us []->zBa w Φ A ((ps.drop c).take n) ((us.drop c).take n) []:=by
  intro ps
  induction ps with
  |nil=>intro us c n h;rw[h.1];simp[zBa]
  | cons p ps ih =>
   intro us c n h;obtain⟨v,vs,L1,L2,rfl,hL,h1,h2⟩:=h;obtain⟨rfl,rfl⟩:L1=[]/\L2=[]:=by simpa using hL.symm
   cases c with
   |succ c=>simpa using ih vs c n h2|zero=>
    cases n with
    |zero=>simp[zBa]|succ n=>exact⟨v,_,[],[],rfl,rfl,h1,by simpa using ih vs 0 n h2⟩
 exact key ps us c n h
theorem zDo{a:PV}{v:Value}(hw:a.isWay=true)(h:zBb w rv E a v):v.oneCell'=true:=by
 cases a<;>first|cases hw|skip
 ·obtain⟨_,a,rfl,_⟩:=h;rfl
 ·obtain⟨_,⟨a,c,rfl,_⟩,_⟩:=h;rfl
 ·obtain⟨_,a,c,rfl,_⟩:=h;rfl
 ·obtain⟨_,⟨b,rfl⟩,_⟩:=h;rfl
 ·exact h.elim
theorem zCq{A:Al}(hA:∀ a v,a.isWay=true->A a v->v.oneCell'=true){q:PV}{u:Value}{L:LN}(h:Rep w Φ A q u L)(hq:q.oneCell=true):u.oneCell'=true:=by
 cases q<;>first|cases hq|skip
 case int=>rw[h.1];rfl
 case bool=>rw[h.1];rfl
 case nilp=>rw[h.1];rfl
 case nilf=>rw[h.1];rfl
 case nilm=>rw[h.1];rfl
 case nn=>obtain⟨_,a,n,rfl⟩:=h;rfl
 case nils=>rw[h.1];rfl
 case sl=>obtain⟨_,⟨_,a,n,rfl,_⟩|⟨a,n,c,us,sz,rfl,_⟩⟩:=h<;>rfl
 case own=>obtain⟨_,_,rfl⟩|⟨a,n,c,us,L',_,rfl,_⟩:=h<;>rfl
 case ref=>obtain⟨_,a,c,u,rfl,_⟩:=h;rfl
 case box=>obtain⟨a,c,u,L',_,rfl,_⟩:=h;rfl
 case map=>obtain⟨_,b,e,rfl,_⟩:=h;rfl
 case omap=>obtain⟨b,e,_,rfl,_⟩:=h;rfl
 case func=>obtain⟨_,fs,cs,rfl,_⟩:=h;rfl
 all_goals exact hA _ _ rfl h.2
theorem zBX{v:Value}(h:v.oneCell'=true):v.cells=#[v]/\zCu v=false:=by
 cases v<;>first|exact⟨rfl,rfl⟩|cases h
theorem zBu{p:PV}(h:p.oneCell=true):p.cells=[p]/\p.isAgg=false:=by
 cases p<;>first|exact⟨rfl,rfl⟩|cases h
theorem zQX{A A':Al}(hA1:∀ a v,a.isWay=true->A a v->v.oneCell'=true)(hΦ:∀ b,Φ b->Φ' b)(hA:∀ a v,a.isWay=true->A a v->A' a v){x:PV}{xv:Value}{Lx:LN}(hx:Rep w Φ A x xv Lx)(hL:∀ b∈Lx,Φ' b){i c:Nat}{sh:ON}{v:Value}{a:Addr}
  (hv:v = .pointer (some a)) (ha:∀ a',zBe xv x i c=some a'->a=a'):Rep w Φ' A' (zDO i c sh x) v []:=by
 simp only[zDO]
 cases hh:zBm x with
 |none=>rfl
 | some xs =>
  simp only
  cases hi:xs[i]? with
  |none=>rfl
  | some y =>
   simp only;obtain⟨ux,row,ad,Ly,h1,h2,h3,h4,h5,h6,h7,h8,h9⟩:=zMb hx hh hi;have jO:=ha _ (h5 c);have hbel:∀ a v,a.isWay=true->zG2 A x a v->A' a v:=fun a v hw h=>hA a v hw (zGv h)
   cases sh with
   | some m =>
    simp only;by_cases yR:c+m<=y.cells.length
    ·rw[cP yR]
     cases hya:y.isAgg with
     |false=>rfl
     | true =>
      simp only[dH,cond_true];cases y<;>simp[PV.isAgg] at hya;rename_i cs;obtain⟨vs,rfl,hr⟩:=h9;have jd:=zCc (zDC hΦ cs _ Ly (fun b hb=>hL b (h4 b hb)) hr) c m;have hZ:=hr.length;refine⟨rfl,a,row,.agg ((vs.toList.drop c).take m).toArray,hv,by rw[jO];rfl,by rw[jO];exact hL _ h1,by rw[jO];exact h3.any,?_,⟨?_,rfl⟩,?_⟩
      ·rw[jO];simp only[zAx,PV.cells,zBw,Value.cells];have:=h6 c m yR;simp only[PV.cells] at yR;rw[show((cs.drop c).take m).length=m by simp;omega,this];rfl
      ·simp only[Value.cells,PV.cells,zBw];simp at hZ ⊢;omega
      ·refine⟨_,rfl,?_⟩;have e:zAt ((cs.drop c).take m)=((zAt cs).drop c).take m:=by rw[zCK,zCK,fd,fe]
       simp only[PV.cells] ;rw[e];exact jd.mono zDq.refl hbel (by simp)
    ·have:ble (c+m) y.cells.length=false:=by
      cases hb:ble (c+m) y.cells.length with
      |false=>rfl|true=>exact absurd (br hb) yR
     rw[this];rfl
   | none =>
    simp only
    cases hc:y.cells[c]? with
    |none=>rfl
    | some q =>
     simp only;obtain⟨u,La,Lu,Lb,hu,wQ,uI,_,_⟩:=h9.cell hc h7;have yO:c<y.cells.length:=(bf.1 hc).1
     cases ka:q.oneCell with
     |false=>rfl
     | true =>
      simp only[cond_true];have kF:=zBX (zCq (fun a v hw h=>hA1 a v hw (zGv h)) uI ka);have wR:=zBu ka;refine⟨rfl,a,row,u,hv,by rw[jO];rfl,by rw[jO];exact hL _ h1,by rw[jO];exact h3.any,?_,⟨?_,?_⟩,?_⟩
      ·rw[jO,zDm,wR.1,kF.1];have:=h6 c 1 (by omega);simp only[zAx,bW];rw[this];have:c<ux.cells.toList.length:=by simpa[h8] using yO
       rw[bX this];have:ux.cells.toList[c]=u:=by rw[bk this] at hu;simpa using hu
       simp[this]
      ·rw[zDm,wR.1,kF.1];rfl
      ·rw[zDk,wR.2,kF.2]
      ·exact(zEh hΦ q u Lu (fun b hb=>hL b (h4 b (by rw[wQ];simp[hb]))) uI).mono zDq.refl hbel (by simp)
end
theorem zMW{u u':Value}(h:u.cells.toList=u'.cells.toList)(ha:zCu u=zCu u'):u=u':=by
 have hc:u.cells=u'.cells:=by
  have:=congrArg List.toArray h;simpa using this
 cases hu:zCu u with
 |true=>
  rw[hu] at ha;cases u<;>simp[zCu] at hu;cases u'<;>simp[zCu] at ha;exact congrArg Value.agg hc
 |false=>
  rw[hu] at ha;have h1:u.cells=#[u]:=by cases u<;>first|rfl|simp[zCu] at hu
  have h2:u'.cells=#[u']:=by cases u'<;>first|rfl|simp[zCu] at ha
  rw[h1,h2] at hc;simpa using hc
theorem zPM{sz:Nat}:∀ {us us':List Value},(∀ u∈us,u.cells.size=sz)->(∀ u∈us',u.cells.size=sz)->us.map zCu=us'.map zCu->flat us=flat us'->us=us'
 |[],[],_,_,_,_=>rfl|[],_::_,_,_,h,_=>by simp at h|_::_,[],_,_,h,_=>by simp at h
 | u :: us,u'::us',h1,h2,ha,hf=>by
  simp only[bM,ff] at ha;rw[zCD,zCD] at hf;have hl:u.cells.toList.length=u'.cells.toList.length:=by
   have:=h1 u (by simp);have:=h2 u' (by simp);simp;omega
  obtain⟨h3,h4⟩:=List.append_inj hf hl;rw[zMW h3 ha.1,zPM (fun u hu=>h1 u (by simp[hu])) (fun u hu=>h2 u (by simp[hu])) ha.2 h4]
section
variable {w:World} {Φ Φ':Nat->Prop}
theorem zEw.uniq{b:Nat}{c c':Array Value}(h:zEw w b c)(h':zEw w b c'):c=c':=by
 obtain⟨e,h⟩:=h;obtain⟨e',h'⟩:=h';rw[h] at h';cases h';rfl
mutual
theorem Rep.uniq{A A':Al}:∀ (p:PV) (v:Value) (L L':LN),Rep w Φ A p v L->Rep w Φ' A' p v L'->L=L'
 | .own sz xs,v,L,L',h,h'=>by
  obtain⟨h1,h2,h3⟩|⟨a,n,c,us,M,rfl,h1,h2,h3,h4,h5,h6,h7,h8,h9⟩:=h
  ·obtain⟨_,g2,_⟩|⟨a,n,c,us,M,rfl,g1,_⟩:=h'
   ·rw[h2,g2]
   ·rw[h3] at g1;cases g1
  ·obtain⟨_,_,g3⟩|⟨a',n',c',us',M',rfl,g1,g2,g3,g4,g5,g6,g7,g8,g9⟩:=h'
   ·rw[h1] at g3;cases g3
   ·rw[h1] at g1;cases g1;have:=h4.uniq g4;subst this;have:us=us':=zPM h7.1 g7.1 (h7.2.trans g7.2.symm) (h8.symm.trans g8);subst this;rw[zBa.uniq xs us M M' h9 g9]
 |.box q,v,L,L',h,h'=>by
  obtain⟨a,c,u,M,rfl,h1,h2,h4,h5,h6,h7⟩:=h;obtain⟨a',c',u',M',rfl,g1,g2,g4,g5,g6,g7⟩:=h';rw[h1] at g1;cases g1;have:=h4.uniq g4;subst this;have:u=u':=zMW (h5.symm.trans g5) (h6.2.trans g6.2.symm);subst this;rw[Rep.uniq q u M M' h7 g7]
 |.omap es,v,L,L',h,h'=>by
  obtain⟨b,ents,rfl,h1,h3,h4⟩:=h;obtain⟨b',ents',rfl,g1,g3,g4⟩:=h';rw[h1] at g1;cases g1;rfl
 |.agg cs,v,L,L',h,h'=>by
  obtain⟨vs,rfl,h⟩:=h;obtain⟨vs',g1,h'⟩:=h';cases g1;exact zBa.uniq cs _ L L' h h'
 |.tup cs,v,L,L',h,h'=>by
  obtain⟨vs,rfl,h⟩:=h;obtain⟨vs',g1,h'⟩:=h';cases g1;exact zBa.uniq cs _ L L' h h'
 |.lock q,v,L,L',h,h'=>Rep.uniq q v L L' h h'|.bad,_,_,_,h,h'=>by rw[show _=_ from h,show _=_ from h']|.und,_,_,_,h,h'=>by rw[h.2,h'.2]|.int ..,_,_,_,h,h'=>by rw[h.2,h'.2]|.bool _,_,_,_,h,h'=>by rw[h.2,h'.2]|.nilp,_,_,_,h,h'=>by rw[h.2,h'.2]|.nilf,_,_,_,h,h'=>by rw[h.2,h'.2]|.nilm,_,_,_,h,h'=>by rw[h.2,h'.2]|.nn,_,_,_,h,h'=>by rw[h.1,h'.1]|.nils _,_,_,_,h,h'=>by rw[h.2,h'.2]|.sl xs,_,_,_,h,h'=>by rw[h.1,h'.1]|.ref q,_,_,_,h,h'=>by rw[h.1,h'.1]|.map es,_,_,_,h,h'=>by rw[h.1,h'.1]|.func _ _ _,_,_,_,h,h'=>by rw[h.1,h'.1]|.addr ..,_,_,_,h,h'=>by rw[h.1,h'.1]|.bor ..,_,_,_,h,h'=>by rw[h.1,h'.1]|.bsl ..,_,_,_,h,h'=>by rw[h.1,h'.1]|.bmap ..,_,_,_,h,h'=>by rw[h.1,h'.1]|.yld _,_,_,_,h,h'=>by rw[h.1,h'.1]|.log ..,_,_,_,h,h'=>by rw[h.1,h'.1]
theorem zBa.uniq{A A':Al}:∀ (ps:List PV) (vs:List Value) (L L':LN),zBa w Φ A ps vs L->zBa w Φ' A' ps vs L'->L=L'
 |[],_,_,_,h,h'=>by rw[h.2,h'.2]|p::ps,vs,L,L',h,h'=>by
  obtain⟨v,vs',L1,L2,rfl,rfl,h1,h2⟩:=h;obtain⟨v',vs'',M1,M2,g0,rfl,g1,g2⟩:=h';cases g0;rw[Rep.uniq p v L1 M1 h1 g1,zBa.uniq ps vs' L2 M2 h2 g2]
end
end
theorem zIo{w:World}{Φ Φ':Nat->Prop}{A A':Al}(hΦ:∀ b,Φ b->Φ' b){x:PV}{xv:Value}{Lx:LN}(hx:Rep w Φ A x xv Lx)(hL:∀ b∈Lx,Φ' b){z lo n:Nat}{v:Value}
  (ha:∀ sz xs,x = .own sz xs->z=sz/\zBU v xv sz lo n):Rep w Φ' A' (zCl lo n x) v []:=by
 cases x<;>try rfl
 rename_i sz xs;simp only[zCl];by_cases yR:lo+n<=xs.length
 ·rw [cP yR];simp only [cond_true];obtain ⟨_,hs⟩:=ha sz xs rfl;obtain ⟨h1,h2,h3⟩ | ⟨a,m,c,us,M,rfl,h1,h2,h3,h4,h5,h6,h7,h8,h9⟩:=hx
  ·subst h1;subst h3;have hn:n=0:=by simp at yR;omega
   subst hn;refine⟨rfl,.inl ⟨by simp[zAt],none,0,hs.1,fun _=>rfl⟩⟩
  ·subst h1;obtain⟨rfl,yT⟩:=hs;have jG:us.length=xs.length:=by have:=congrArg length h7.2;simpa using this
   by_cases hn:n=0
   ·subst hn;exact⟨rfl,.inl ⟨by simp[zAt],_,_,rfl,fun h=>by cases h⟩⟩
   ·refine⟨rfl,.inr ⟨zAx a (lo*sz),m-lo,c,(us.drop lo).take n,sz,?_,rfl,?_,hL _ (by simp[zAx]),h4.any,?_,⟨?_,?_⟩,?_,?_⟩⟩
    ·rw[zBw,show((xs.drop lo).take n).length=n by simp;omega]
    ·rw[zBw];simp;omega
    ·intro y hy;rw[zCK] at hy;obtain⟨y,u9,rfl⟩:=bT.1 hy;rw[zDm];exact h6 y (cq (cE u9))
    ·intro u hu;exact h7.1 u (cq (cE hu))
    ·rw[zHD];exact zBa.map_isAgg h7.2 lo n
    ·rw[zBw,show((xs.drop lo).take n).length=n by simp;omega];exact zIZ h7.1 jG h8 (by omega)
    ·have e:zAt ((xs.drop lo).take n)=((zAt xs).drop lo).take n:=by rw[zCK,zCK,fd,fe]
     rw[e];exact zCc (zDC hΦ xs us M (fun b hb=>hL b (by simp[hb])) h9) lo n
 ·have:ble (lo+n) xs.length=false:=by
   cases hb:ble (lo+n) xs.length with
   |false=>rfl|true=>exact absurd (br hb) yR
  rw[this];rfl
theorem zHu{w:World}{Φ Φ':Nat->Prop}{A A':Al}(hΦ:∀ b,Φ b->Φ' b){x:PV}{xv:Value}{Lx:LN}(hx:Rep w Φ A x xv Lx)(hL:∀ b∈Lx,Φ' b){v:Value}
  (ha:∀ es,x = .omap es->v=xv):Rep w Φ' A' (zE7 x) v []:=by
 cases x<;>try rfl
 rename_i es;obtain⟨b,ents,rfl,h1,h3,h4⟩:=hx;refine⟨rfl,b,ents,(ha es rfl).trans h1,hL _ (by simp),h3,zD6.same (fun b hb=>⟨hΦ b hb,rfl⟩) es _ _ h4⟩
section
variable {w:World} {Φ Φ':Nat->Prop}
mutual
theorem Rep.ways{A A':Al}:∀ (p:PV) (v:Value) (L:LN),(∀ a v,a.isWay=true->(∀ x∈a.ways,x∈p.ways)->A a v->A' a v)->Rep w Φ A p v L->Rep w Φ A' p v L
 |.bad,_,_,_,h=>h|.und,_,_,_,h=>h|.int ..,_,_,_,h=>h|.bool _,_,_,_,h=>h|.nilp,_,_,_,h=>h|.nilf,_,_,_,h=>h|.nilm,_,_,_,h=>h|.nn,_,_,_,h=>h|.nils _,_,_,_,h=>h|.agg cs,v,L,hA,h=>by
  obtain⟨vs,rfl,h⟩:=h;exact⟨vs,rfl,zBa.ways cs _ L (fun a v hw hx ha=>hA a v hw hx ha) h⟩
 |.tup cs,v,L,hA,h=>by
  obtain⟨vs,rfl,h⟩:=h;exact⟨vs,rfl,zBa.ways cs _ L (fun a v hw hx ha=>hA a v hw hx ha) h⟩
 |.sl xs,_,_,_,h=>h|.own sz xs,_,_,_,h=>h|.ref q,v,L,hA,h=>by
  obtain⟨rfl,a,c,u,h1,h2,h3,h4,h5,h6,h7⟩:=h;exact⟨rfl,a,c,u,h1,h2,h3,h4,h5,h6,Rep.ways q u [] (fun a v hw hx ha=>hA a v hw hx ha) h7⟩
 |.box q,v,L,hA,h=>by
  obtain⟨a,c,u,L',h0,h1,h2,h4,h5,h6,h7⟩:=h;exact⟨a,c,u,L',h0,h1,h2,h4,h5,h6,Rep.ways q u L' (fun a v hw hx ha=>hA a v hw hx ha) h7⟩
 |.map es,_,_,_,h=>h|.omap es,_,_,_,h=>h|.func g a b,v,L,hA,h=>by
  obtain⟨rfl,fs,cs,h1,h2,h3⟩:=h;exact⟨rfl,fs,cs,h1,zBa.ways a _ [] (fun x v hw hx ha=>hA x v hw (fun y hy=>bg.2 (.inl (hx y hy))) ha) h2,zBa.ways b _ [] (fun x v hw hx ha=>hA x v hw (fun y hy=>bg.2 (.inr (hx y hy))) ha) h3⟩
 |.addr ..,v,L,hA,h=>⟨h.1,hA _ _ rfl (fun _ h=>h) h.2⟩
 |.bor ..,v,L,hA,h=>⟨h.1,hA _ _ rfl (fun _ h=>h) h.2⟩
 |.bsl ..,v,L,hA,h=>⟨h.1,hA _ _ rfl (fun _ h=>h) h.2⟩
 |.bmap ..,v,L,hA,h=>⟨h.1,hA _ _ rfl (fun _ h=>h) h.2⟩
 |.lock q,v,L,hA,h=>Rep.ways q v L (fun a v hw hx ha=>hA a v hw hx ha) h
 |.yld _,v,L,hA,h=>h|.log ..,v,L,hA,h=>⟨h.1,hA _ _ rfl (fun _ h=>h) h.2⟩
theorem zBa.ways{A A':Al}:∀ (ps:List PV) (vs:List Value) (L:LN),(∀ a v,a.isWay=true->(∀ x∈a.ways,x∈zBE ps)->A a v->A' a v)->zBa w Φ A ps vs L->zBa w Φ A' ps vs L
 |[],_,_,_,h=>h|p::ps,vs,L,hA,h=>by
  obtain⟨v,vs',L1,L2,h0,h1,h2,h3⟩:=h;exact⟨v,vs',L1,L2,h0,h1,Rep.ways p v L1 (fun a v hw hx ha=>hA a v hw (fun y hy=>bg.2 (.inl (hx y hy))) ha) h2,zBa.ways ps vs' L2 (fun a v hw hx ha=>hA a v hw (fun y hy=>bg.2 (.inr (hx y hy))) ha) h3⟩
end
mutual
theorem zGV:∀ p:PV,∀ x∈(zA2 p).ways,x∈p.ways
 |.agg cs,x,h=>zHg cs x h|.box q,x,h=>zGV q x h|.own ..,x,h=>by cases h|.omap _,x,h=>by cases h|.tup _,x,h=>by cases h|.lock _,x,h=>by cases h|.bad,_,h=>h|.und,_,h=>h|.int ..,_,h=>h|.bool _,_,h=>h|.nilp,_,h=>h|.nilf,_,h=>h|.nilm,_,h=>h|.nn,_,h=>h|.nils _,_,h=>h|.sl _,_,h=>h|.ref _,_,h=>h|.map _,_,h=>h|.func ..,_,h=>h|.addr ..,_,h=>h|.bor ..,_,h=>h|.bsl ..,_,h=>h|.bmap ..,_,h=>h|.yld _,_,h=>h|.log ..,_,h=>h
theorem zHg:∀ ps:List PV,∀ x∈zBE (zAt ps),x∈zBE ps
 |[],_,h=>h|p::ps,x,h=>by
  simp only[zAt,zBE,bg] at h ⊢;rcases h with h|h
  ·exact .inl (zGV p x h)
  ·exact .inr (zHg ps x h)
end
theorem zKO(p:PV):(zA2 p).oneCell=p.oneCell:=by cases p<;>rfl
theorem zEe(ag:Bool)(sz:Nat):∀ (m:Nat) (cs:List PV),(zCz ag sz m cs).length=m
 |0,_=>rfl|m+1,cs=>by simp[zCz,zEe ag sz m]
theorem zGx{A:Al}(hA:∀ a v,a.isWay=true->A a v->v.oneCell'=true){ag:Bool}{sz:Nat}:∀ (m:Nat) (ps:List PV) (us:List Value),ps.length=m*sz->(ag=false->sz=1/\∀ q∈ps,q.oneCell=true)->zBa w Φ A ps us [] ->
  ∃ us',zBa w Φ A (zCz ag sz m ps) us' []/\flat us'=us/\(∀ u∈us',u.cells.size=sz)/\us'.map zCu=(zCz ag sz m ps).map PV.isAgg/\∀ x∈zCz ag sz m ps,x.cells.length=sz
 |0,ps,us,hl,_,h=>by
  have:ps=[]:=bq (by simpa using hl);subst this;exact⟨[],⟨rfl,rfl⟩,by rw[h.1];rfl,by simp,rfl,by simp[zCz]⟩
 | m + 1,ps,us,hl,ho,h=>by
  have jG:=h.length;rw[cW] at hl;have h1:zBa w Φ A (ps.take sz) (us.take sz) []:=by simpa using zCc h 0 sz
  have h2:zBa w Φ A (ps.drop sz) (us.drop sz) []:=by
   have:=zCc h sz (ps.length-sz);rwa[bz (by simp),bz (by simp;omega)] at this
  obtain⟨us',h3,h4,h5,h6,h7⟩:=zGx hA (ag:=ag) (sz:=sz) m (ps.drop sz) (us.drop sz) (by simp;omega) (fun jl=>⟨(ho jl).1,fun q hq=>(ho jl).2 q (cq hq)⟩) h2
  cases ag with
  | true =>
   refine⟨.agg (us.take sz).toArray::us',⟨_,us',[],[],rfl,rfl,⟨_,rfl,by simpa using h1⟩,h3⟩,?_,?_,?_,?_⟩
   ·rw[zCD,h4];simp[Value.cells]
   ·intro u hu;rcases bv.1 hu with rfl|hu
    ·simp[Value.cells];omega
    ·exact h5 u hu
   ·simp only[zCz,cond_true,bM,h6];rfl
   ·intro x hx;simp only[zCz,cond_true] at hx;rcases bv.1 hx with rfl|hx
    ·simp[PV.cells];omega
    ·exact h7 x hx
  | false =>
   obtain⟨vJ,yN⟩:=ho rfl;subst vJ
   match ps,us,h,yN,hl with
   | p :: ps,us,h,yN,hl =>
    obtain⟨v,vs',L1,L2,rfl,hL,g1,g2⟩:=h;obtain⟨rfl,rfl⟩:L1=[]/\L2=[]:=by simpa using hL.symm
    have hp:=yN p (by simp);have k1:=zBX (zCq hA g1 hp);have k2:=zBu hp;refine⟨v::us',⟨v,us',[],[],rfl,rfl,g1,h3⟩,?_,?_,?_,?_⟩
    ·rw[zCD,h4,k1.1];simp
    ·intro u hu;rcases bv.1 hu with rfl|hu
     ·rw[k1.1];rfl
     ·exact h5 u hu
    ·simp only[zCz,cond_false,List.headD_cons,bM,k1.2,k2.2];congr 1
    ·intro x hx;simp only[zCz,cond_false,List.headD_cons] at hx;rcases bv.1 hx with rfl|hx
     ·rw[k2.1];rfl
     ·exact h7 x hx
end
section
variable {w:World} {Φ Φ':Nat->Prop} {rv:Nat->Value} {E E':Nat->PV} {A:Al}
theorem zHa{ps:List PV}{us:List Value}{Lx:LN}(h:zBa w Φ A ps us Lx)(c n:Nat):∃ Ly,(∀ b∈Ly,b∈Lx)/\zBa w Φ A ((ps.drop c).take n) ((us.drop c).take n) Ly:=by
 induction ps generalizing us Lx c n with
 |nil=>rw[h.1];exact⟨[],by simp,by simp[zBa]⟩
 | cons p ps ih =>
  obtain⟨v,vs',L1,L2,rfl,rfl,g1,g2⟩:=h
  cases c with
  |succ c=>obtain⟨Ly,h1,h2⟩:=ih g2 c n;exact⟨Ly,fun b hb=>by simp[h1 b hb],by simpa using h2⟩
  | zero =>
   cases n with
   |zero=>exact⟨[],by simp,by simp[zBa]⟩|succ n=>
    obtain⟨Ly,h1,h2⟩:=ih g2 0 n;exact⟨L1++Ly,fun b hb=>by rcases bg.1 hb with h|h;simp[h];simp[h1 b h],v,_,L1,Ly,rfl,rfl,g1,by simpa using h2⟩
end
section
variable {w:World} {Φ Φ':Nat->Prop} {rv:Nat->Value} {E E':Nat->PV}
theorem zJ2{a:PV}{v:Value}(hw:a.isWay=true)(h:zBb w rv E a v):a.ways≠[]:=by
 cases a<;>first|(cases hw;done)|exact h.elim|simp[PV.ways]
theorem zHI{A A':Al}(hA1:∀ a v,a.isWay=true->A a v->a.ways≠[])(hΦ:∀ b,Φ b->Φ' b){x:PV}{xv:Value}{Li:LN}(wS:Rep w Φ A x xv Li)(jK:∀ b∈Li,Φ' b){i c sz m cap:Nat}{ag:Bool}{v:Value}{ad:Addr}
  (hv:v = .slice (some ad) m cap) (yT:m<=cap) (hn:∀ a',zBe xv x i c=some a'->ad=a'):Rep w Φ' A' (zCH i c sz ag m x) v []:=by
 simp only[zCH]
 cases hh:zBm x with
 |none=>rfl
 | some xs =>
  simp only
  cases hi:xs[i]? with
  |none=>rfl
  | some y =>
   simp only
   cases hc:(zCA ag sz m ((y.cells.drop c).take (m*sz))&&(zBE y.cells).isEmpty) with
   |false=>rfl
   | true =>
    simp only[cond_true];simp only[bb,zCA] at hc;obtain⟨⟨yO,kA⟩,jr⟩:=hc;have yO:=bc yO;obtain⟨ux,row,ad0,Lx,k1,k2,k3,k4,k5,k6,k7,k8,k9⟩:=zMb wS hh hi;have jO:=hn _ (k5 c);subst jO;have k9':=k9.mono (A':=A) zDq.refl (fun _ _ _ h=>zGv h) (fun _ _=>rfl);have zBm:=k9'.cellsAll k7;have qX:zBa w Φ zCp y.cells ux.cells.toList Lx:=zBm.ways _ _ _ fun a v hw hx ha=>by
     have h0:zBE y.cells=[]:=by simpa using jr
     rw[h0] at hx;have h1:=hA1 a v hw ha
     cases vK:a.ways with
     |nil=>exact absurd vK h1|cons z zs=>have:=hx z (by rw[vK];simp);cases this
    obtain⟨Ly,hly,qY⟩:=zHa qX c (m*sz);have uj:=zDC hΦ _ _ Ly (fun b hb=>jK b (k4 b (hly b hb))) qY;obtain⟨us',q1,q2,q3,q4,q5⟩:=zGx (ag:=ag) (sz:=sz) (fun a v _ h=>h.elim) m _ _ (by rw[zBw];exact yO) (fun jl=>by
     simp only[jl,co,bb] at kA;refine⟨bc kA.1,fun q hq=>?_⟩;rw[zCK] at hq;obtain⟨q0,gE,rfl⟩:=bT.1 hq;rw[zKO];exact bj.1 kA.2 q0 gE) uj
    have gk:(zCz ag sz m (zAt ((y.cells.drop c).take (m*sz)))).length=m:=zEe _ _ _ _;by_cases hm:m=0
    ·subst hm;exact⟨rfl,.inl ⟨rfl,_,_,hv,fun h=>by cases h⟩⟩
    ·refine⟨rfl,.inr ⟨zAx ad0 c,cap,row,us',sz,by rw[gk];exact hv,rfl,by rw[gk];exact yT,jK _ k1,k3.any,q5,⟨q3,q4⟩,?_,q1⟩⟩;rw[gk,q2];by_cases qZ:m*sz=0
     ·rw[qZ];simp[seg]
     ·have:c+m*sz<=y.cells.length:=by simp at yO;omega
      exact k6 c (m*sz) this
end
theorem zI1(r:Nat)(pre:zA4)(q:PV):Tame (inl r pre q):=by
 have h1 : ∀ i c sh x,(zDO i c sh x).isAgg=false/\(zDO i c sh x).dull=true:=by
  intro i c sh x;simp only[zDO];split
  ·split
   ·split
    ·cases (ble _ _&&PV.isAgg _)<;>exact⟨rfl,rfl⟩
    ·split
     ·rename_i q _;cases q.oneCell<;>exact⟨rfl,rfl⟩
     ·exact⟨rfl,rfl⟩
   ·exact⟨rfl,rfl⟩
  ·exact⟨rfl,rfl⟩
 have h2:∀ lo n x,(zCl lo n x).isAgg=false/\(zCl lo n x).dull=true:=by
  intro lo n x;cases x<;>try exact⟨rfl,rfl⟩
  simp only[zCl];cases ble _ _<;>exact⟨rfl,rfl⟩
 have h5:∀ i c sz ag m x,(zCH i c sz ag m x).isAgg=false/\(zCH i c sz ag m x).dull=true:=by
  intro i c sz ag m x;simp only[zCH];split
  ·split
   ·cases (zCA ag sz m _&&_)<;>exact⟨rfl,rfl⟩
   ·exact⟨rfl,rfl⟩
  ·exact⟨rfl,rfl⟩
 have h3:∀ x,(zE7 x).isAgg=false/\(zE7 x).dull=true:=by intro x;cases x<;>exact⟨rfl,rfl⟩
 have h4:∀ (o:Option PV) (f:PV->PV),(∀ x,(f x).isAgg=false/\(f x).dull=true)->(zFH o f).isAgg=false/\(zFH o f).dull=true:=by
  intro o f hf;cases o with
  |none=>exact⟨rfl,rfl⟩|some x=>exact hf x
 constructor
 ·intro p;cases p<;>try rfl
  all_goals
   rename_i a b;simp only[inl];cases zAT r pre _ _<;>first|rfl|exact(h4 _ _ (h1 _ _ _)).1|exact(h4 _ _ (h2 _ _)).1|exact(h4 _ _ h3).1|exact(h4 _ _ (h5 _ _ _ _ _)).1
 ·intro p hp;cases p<;>first|(cases hp;done)|skip
  all_goals
   first|rfl|skip
  all_goals
   simp only[inl];cases zAT r pre _ _<;>first|rfl|exact(h4 _ _ (h1 _ _ _)).2|exact(h4 _ _ (h2 _ _)).2|exact(h4 _ _ h3).2|exact(h4 _ _ (h5 _ _ _ _ _)).2
theorem zB1{w:World}{Φ:Nat->Prop}{A:Al}{p:PV}{v:Value}{L:LN}(h:Rep w Φ A p v L){pre:zA4}{q:PV}(hq:zAC p pre=some q) :
  ∃ nv Li,zA3 w v p pre=some (nv,q)/\(∀ b∈Li,b∈L)/\Rep w Φ (zI0 A p pre) q nv Li:=by
 obtain⟨nv,La,Li,Lb,h1,h2,h3,_⟩:=Rep.zip pre h hq;exact⟨nv,Li,h1,fun b hb=>by rw[h2];simp[hb],h3⟩
theorem zEp{r r':Nat}{pre q:zA4}:zAT r pre r' q=true↔r'=r/\∃ rest,q=pre++rest:=by
 simp only[zAT,bb,fx];constructor
 ·rintro⟨h1,rest,h2⟩;exact⟨bc h1,rest,h2.symm⟩
 ·rintro⟨rfl,rest,h2⟩;exact⟨cz _,rest,h2.symm⟩
section
variable {w w0:World} {U Φ0 Φ:Nat->Prop} {rv:Nat->Value} {E:Nat->PV} {L:Nat->LN}
theorem Conf.ice(h:Conf w0 U Φ0 w Φ rv E L)(M:Nat->Bool){r:Nat}(hr:r<zAa){pre:zA4}{q root':PV}(j1:(E r).unlock=E r)(hn:zAC (E r) pre=some q)
  (hm:zAz (fun _=>some (zA2 q)) (E r) pre=some root') (yF:root'.unlock=root') :
  ∃ nv Li L',zA3 w (rv r) (E r) pre=some (nv,q)/\Rep w Φ (zI0 (zBb w rv E) (E r) pre) q nv Li/\(∀ s,s≠r->L' s=L s) /\
   Conf w0 U Φ0 w (fun b=>Φ b\/b∈Li) rv (fun s=>if s<zAa\/M s=true then(if s=r then root' else E s).mapW (inl r pre q) else E s) L':=by
 obtain⟨nv,La,Li,Lb,ug,hL,hX,wP,uf⟩:=Rep.zip pre (h.rep r) hn;have hΦ:∀ b,Φ b->Φ b\/b∈Li:=fun b hb=>.inl hb;have vL:=zI1 r pre q;have yV:=h.nodup r;rw[hL] at yV;simp only[bI] at yV;have ve:∀ b∈Li,b∉La++Lb:=by
  intro b hb jS;rcases bg.1 jS with h2|h2
  ·exact yV.1.2.2 b h2 b hb rfl
  ·exact yV.2.2 b (by simp[hb]) b h2 rfl
 have hK:∀ a u,zBb w rv E a u->zBb w rv (fun s=>if s<zAa\/M s=true then(if s=r then root' else E s).mapW (inl r pre q) else E s) a u:=by
  intro a u ha;have yL:=zC7 ha;refine ha.mono fun nv2 np2 j9 hh=>?_;simp only[yL,true_or,if_true] at j9;rw[zDN vL] at j9;obtain⟨np1,vM,wE⟩:=zDc vL j9 hh;by_cases ui:(zBf a).1=r
  ·rw[ui] at vM ⊢;simp only[if_true,yF] at vM;rcases uf w (zA2 q) root' (fun _ _=>rfl) (fun _=>zDk q) hm _ nv2 np1 vM (zDV wE) with⟨rest,_,h2⟩|⟨np0,h1,h2⟩
   ·have:=zIF h2;rw[zDV wE] at this;cases this
   ·rw[j1];exact⟨np0,h1,h2.trans wE⟩
  ·simp only[ui,if_false] at vM;exact⟨np1,vM,wE⟩
 have gl:∀ a v,a.isWay=true->zI0 (zBb w rv E) (E r) pre a v->zBb w rv (fun s=>if s<zAa\/M s=true then (if s=r then root' else E s).mapW (inl r pre q) else E s) a v:=fun a v _ ha=>hK a v (zEO ha);have hA : ∀ a u,a.isWay=true->zBb w rv E a u->Rep w (fun b=>Φ b\/b∈Li) (zBb w rv (fun s=>if s<zAa\/M s=true then (if s=r then root' else E s).mapW (inl r pre q) else E s)) (inl r pre q a) u []:=by
  intro a u uG ha;have node:∀ rest x,zAC q rest=some x->∃ xv Lx,zA3 w (rv r) (E r).unlock (pre++rest)=some (xv,x)/\(∀ b∈Lx,b∈Li)/\Rep w Φ (zI0 (zI0 (zBb w rv E) (E r) pre) q rest) x xv Lx:=by
   intro rest x hx;obtain⟨xv,Lx,h1,h2,h3⟩:=zB1 hX hx;exact⟨xv,Lx,by rw[j1,zDw,ug];exact h1,h2,h3⟩
  have ho1:∀ rest a v,a.isWay=true->zI0 (zI0 (zBb w rv E) (E r) pre) q rest a v->v.oneCell'=true:=fun rest a v hw h=>zDo hw (zEO (zEO h));cases a<;>first|(cases uG;done)|skip
  case addr r' p i c sh=>
   simp only[inl]
   cases hu:zAT r pre r' p with
   |false=>exact⟨rfl,hK _ _ ha⟩
   | true =>
    obtain⟨rfl,rest,rfl⟩:=zEp.1 hu;simp only[cond_true,f7]
    cases hg:zAC q rest with
    |none=>rfl|some x=>
     obtain⟨xv,Lx,h1,h2,h3⟩:=node rest x hg;obtain⟨_,a',h4,h5,h6⟩:=ha;exact zQX (ho1 rest) hΦ (fun a v hw h=>gl a v hw (zEO h)) h3 (fun b hb=>.inr (h2 b hb)) h4 fun a'' gm=>h6 xv x h1 a'' gm
  case bor r' p z lo n=>
   simp only[inl]
   cases hu:zAT r pre r' p with
   |false=>exact⟨rfl,hK _ _ ha⟩
   | true =>
    obtain⟨rfl,rest,rfl⟩:=zEp.1 hu;simp only[cond_true,f7]
    cases hg:zAC q rest with
    |none=>rfl
    | some x =>
     obtain⟨xv,Lx,h1,h2,h3⟩:=node rest x hg;obtain⟨_,_,h6⟩:=ha;exact zIo hΦ h3 (fun b hb=>.inr (h2 b hb)) fun sz xs hx=>by
      subst hx;obtain⟨sz',xs',h7,h8,h9⟩:=h6 xv _ h1 rfl;cases h7;exact⟨h8,h9⟩
  case bsl r' p i c sz ag n=>
   simp only[inl]
   cases hu:zAT r pre r' p with
   |false=>exact⟨rfl,hK _ _ ha⟩
   | true =>
    obtain⟨rfl,rest,rfl⟩:=zEp.1 hu;simp only[cond_true,f7]
    cases hg:zAC q rest with
    |none=>rfl|some x=>
     obtain⟨xv,Lx,h1,h2,h3⟩:=node rest x hg;obtain⟨_,a',cap,h4,yT,h5,h6⟩:=ha;exact zHI (fun a v hw h=>zJ2 hw (zEO (zEO h))) hΦ h3 (fun b hb=>.inr (h2 b hb)) h4 yT fun a'' gm=>h6 xv x h1 a'' gm
  case bmap r' p=>
   simp only[inl]
   cases hu:zAT r pre r' p with
   |false=>exact⟨rfl,hK _ _ ha⟩
   | true =>
    obtain⟨rfl,rest,rfl⟩:=zEp.1 hu;simp only[cond_true,f7]
    cases hg:zAC q rest with
    |none=>rfl|some x=>
     obtain⟨xv,Lx,h1,h2,h3⟩:=node rest x hg;obtain⟨_,_,h6⟩:=ha;exact zHu hΦ h3 (fun b hb=>.inr (h2 b hb)) fun es hx=>h6 xv x h1 es hx
  case log=>exact ha.elim
 have hs:zDq w w Φ (fun b=>Φ b\/b∈Li):=fun b hb=>⟨.inl hb,rfl⟩;have yg:∀ b,b∈La++Lb->b∈L r:=fun b hb=>by rw[hL];simp at hb ⊢;rcases hb with h|h<;>simp[h]
 refine⟨nv,Li,fun s=>if s=r then La++Lb else L s,ug,hX,fun s hs=>by simp[hs],?_,?_,?_,?_,?_,fun b hb=>.inl (h.frz0 b hb),h.size,h.kept,h.os,h.tape,h.output⟩
 ·intro s;by_cases yW:s=r
  ·subst yW;simp only[if_true,hr,true_or];have h1:=wP w (fun b=>Φ b\/b∈Li) (zBb w rv E) (zA2 q) [] root' (fun _ _ _ h=>h) hs (fun _ _=>rfl) (fun _=>zDk q) (zEh hΦ q nv Li (fun b hb=>.inr hb) hX) hm;exact Rep.map vL.agg zDq.refl hA _ _ _ (fun _ _=>rfl) (by simpa using h1)
  ·by_cases yn:s<zAa\/M s=true
   ·simp only[yW,yn,if_false,if_true];exact Rep.map vL.agg hs hA _ _ _ (fun _ _=>rfl) (h.rep s)
   ·simp only[yW,yn,if_false];exact(h.rep s).mono hs (fun a u _ ha=>hK a u ha) (fun _ _=>rfl)
 ·intro s;by_cases yW:s=r
  ·subst yW;simp only[if_true,bI];exact⟨yV.1.1,yV.2.1,fun a ha b hb e=>yV.2.2 a (by simp[ha]) b hb e⟩
  ·simp only[yW,if_false];exact h.nodup s
 ·intro s s' hI b hb yJ;by_cases yW:s=r
  ·subst yW;simp only[if_true] at hb;rw[if_neg (dA hI)] at yJ;exact h.disj s s' hI b (yg b hb) yJ
  ·rw[if_neg yW] at hb;by_cases hsr':s'=r
   ·subst hsr';simp only[if_true] at yJ;exact h.disj s s' hI b hb (yg b yJ)
   ·rw[if_neg hsr'] at yJ;exact h.disj s s' hI b hb yJ
 ·intro s b hb;have jT:∃ t,b∈L t/\b∉Li:=by
   by_cases yW:s=r
   ·subst yW;simp only[if_true] at hb;exact⟨s,yg b hb,fun uh=>ve b uh hb⟩
   ·rw[if_neg yW] at hb;exact⟨s,hb,fun uh=>h.disj s r yW b hb (by rw[hL];simp[uh])⟩
  obtain⟨t,h1,h2⟩:=jT;obtain⟨h3,h4,h5⟩:=h.own t b h1;exact⟨h3,fun hp=>hp.elim h4 h2,h5⟩
 ·intro b hb;rcases hb with hb|hb
  ·exact h.frz b hb
  ·obtain⟨h3,h4,h5⟩:=h.own r b (by rw[hL];simp[hb]);exact⟨h3,.inr h5⟩
end
end Go.Eng
namespace Go.Eng
open Go
theorem Env.get_set(e:Env)(s:Nat)(p:PV)(t:Nat):(e.set s p).get t=if t=s then p else e.get t:=by
 induction e with
 | nil =>
  simp only[Env.set,Env.get];by_cases h:t=s
  ·subst h;simp
  ·have:beq s t=false:=by
    cases hb:beq s t with
    |false=>rfl|true=>exact absurd (bc hb).symm h
   simp[this,h]
 | cons x e ih =>
  obtain⟨k,v⟩:=x;simp only[Env.set]
  cases hk:beq k s with
  | true =>
   have:=bc hk;subst this;simp only[cond_true,Env.get];by_cases h:t=k
   ·subst h;simp
   ·have:beq k t=false:=by
     cases hb:beq k t with
     |false=>rfl|true=>exact absurd (bc hb).symm h
    simp[this,h]
  | false =>
   have hI:k≠s:=fun h=>by subst h;simp at hk
   simp only[cond_false]
   cases ble s k with
   | true =>
    simp only[cond_true,Env.get];by_cases h:t=s
    ·subst h;simp
    ·have:beq s t=false:=by
      cases hb:beq s t with
      |false=>rfl|true=>exact absurd (bc hb).symm h
     simp[this,h]
   | false =>
    simp only[cond_false,Env.get,ih]
    cases hb:beq k t with
    |true=>
     have:=bc hb;subst this;simp[hI]
    |false=>rfl
theorem Env.get_map(e:Env){g:PV->PV}(hg:g .bad = .bad)(s:Nat):Env.get (e.map fun x=>(x.1,g x.2)) s=g (e.get s):=by
 induction e with
 |nil=>simp[Env.get,hg]|cons x e ih=>
  obtain⟨k,v⟩:=x;simp only[bM,Env.get,ih];cases beq k s<;>rfl
theorem Env.get_kill(e:Env)(r:Nat)(pre:zA4)(s:Nat):(e.kill r pre).get s=(e.get s).mapW (lose r pre):=Env.get_map e (g:=fun p=>p.mapW (lose r pre)) rfl s
theorem Env.get_killEx(e:Env)(r:Nat)(keep:List zA4)(s:Nat):(e.killEx r keep).get s=(e.get s).mapW (zBY r keep):=Env.get_map e (g:=fun p=>p.mapW (zBY r keep)) rfl s
theorem Env.get_drop(e:Env)(l:LN)(s:Nat):(e.drop l).get s=if zNd l s then .bad else e.get s:=by
 induction e with
 |nil=>simp[Env.drop,Env.get]
 | cons x e ih =>
  obtain⟨k,v⟩:=x;simp only[Env.drop] at ih ⊢;simp only[fp];by_cases hk:zNd l k=true
  ·simp only[hk,dy,bp,if_false,ih,Env.get]
   cases hb:beq k s with
   |true=>have:=bc hb;subst this;simp[hk]|false=>rfl
  ·simp only[hk,f8,if_true,Env.get,ih]
   cases hb:beq k s with
   |true=>have:=bc hb;subst this;simp[hk]|false=>rfl
theorem Env.frz_eq{e e':Env}{r:Nat}{pre:zA4}(h:e.frz r pre=some e') :
  ∃ q root,(e.get r).isLock=false/\zAC (e.get r) pre=some q/\zAz (fun _=>some (zA2 q)) (e.get r) pre=some root/\∀ s,e'.get s=(if s=r then root else e.get s).mapW (inl r pre q):=by
 simp only[Env.frz] at h
 cases hl:(e.get r).isLock with
 |true=>rw[hl] at h;cases h|false=>
 rw[hl] at h;simp only[cond_false] at h
 cases hq:zAC (e.get r) pre with
 |none=>rw[hq] at h;cases h
 | some q =>
  rw[hq] at h;simp only at h
  cases hm:zAz (fun _=>some (zA2 q)) (e.get r) pre with
  |none=>rw[hm] at h;cases h|some root=>
   rw[hm] at h;simp only[ba] at h;subst h;refine⟨q,root,rfl,rfl,hm,fun s=>?_⟩;rw[Env.get_map (e.set r root) (g:=fun p=>p.mapW (inl r pre q)) rfl s,Env.get_set]
structure Hid where
 val:Nat->Value
 ds:List Deferred
structure St (w0:World) (U Φ0:Nat->Prop) (nt:Nat) (hv:Hid) (a:Act) (w:World) (e:Env) (Φ:Nat->Prop) (rv:Nat->Value) (E:Nat->PV) (L:Nat->LN):Prop where
 conf:Conf w0 U Φ0 w Φ rv E L
 env:∀ s,s<zAa->E s=e.get s
 size:a.tmps.size=nt
 small:nt<=2000000
 tmps:∀ t,t<nt->a.tmps.getD t undef=rv t
 parts:∀ d ps i,d<nt->E d = .tup ps->i<ps.length->i<16/\∃ vs,rv d = .tuple vs/\vs[i]? = some (rv (zBD d i))
 hid:∀ s,zAk<=s->s<zAI->rv s=hv.val s
 dfr:a.defers=hv.ds
def Fr(w0:World)(U Φ0:Nat->Prop)(nt:Nat)(hv:Hid)(a:Act)(w:World)(e:Env):Prop :=
 ∃ Φ rv E L,St w0 U Φ0 nt hv a w e Φ rv E L/\∀ g,zAa<=g->E g = .bad
def zAZ(nt:Nat):Operand->Bool
 |.tmp t=>blt t nt|_=>true
theorem zCh{a b:Nat}(h:blt a b=true):a<b:=br h
section
variable {w0 w:World} {U Φ0 Φ:Nat->Prop} {nt:Nat} {hv:Hid} {a:Act} {e e':Env} {rv rv':Nat->Value} {E E':Nat->PV} {L L':Nat->LN} {o:zAM}
mutual
theorem zDy{A:Al}:∀ (p:PV) (v:Value) (L:LN),p.heavy=false->Rep w Φ A p v L->L=[]
 |.own ..,_,_,hp,_=>by cases hp|.box _,_,_,hp,_=>by cases hp|.omap _,_,_,hp,_=>by cases hp|.lock _,_,_,hp,_=>by cases hp|.agg cs,_,_,hp,h=>by obtain⟨vs,_,h⟩:=h;exact zHX cs _ _ hp h
 |.tup cs,_,_,hp,h=>by obtain⟨vs,_,h⟩:=h;exact zHX cs _ _ hp h
 |.bad,_,_,_,h=>h|.und,_,_,_,h=>h.2|.int ..,_,_,_,h=>h.2|.bool _,_,_,_,h=>h.2|.nilp,_,_,_,h=>h.2|.nilf,_,_,_,h=>h.2|.nilm,_,_,_,h=>h.2|.nn,_,_,_,h=>h.1|.nils _,_,_,_,h=>h.2|.sl xs,_,_,_,h=>h.1|.ref q,_,_,_,h=>h.1|.map es,_,_,_,h=>h.1|.func _ _ _,_,_,_,h=>h.1|.addr ..,_,_,_,h=>h.1|.bor ..,_,_,_,h=>h.1|.bsl ..,_,_,_,h=>h.1|.bmap ..,_,_,_,h=>h.1|.yld _,_,_,_,h=>h.1|.log ..,_,_,_,h=>h.1
theorem zHX{A:Al}:∀ (ps:List PV) (vs:List Value) (L:LN),zDj ps=false->zBa w Φ A ps vs L->L=[]
 |[],_,_,_,h=>h.2|p::ps,_,_,hp,h=>by
  simp only[zDj,cD] at hp;obtain⟨v,vs',L1,L2,rfl,rfl,h1,h2⟩:=h;rw[zDy p v L1 hp.1 h1,zHX ps vs' L2 hp.2 h2];rfl
end
def zZt(E E':Nat->PV):Prop:=∀ d ps,d<2000000->E' d = .tup ps->∃ ps',E d = .tup ps'/\ps'.length=ps.length
theorem zZt.refl:zZt E E:=fun _ ps _ h=>⟨ps,h,rfl⟩
theorem zDi{f:PV->PV}:∀ ps:List PV,(zCB f ps).length=ps.length
 |[]=>rfl|p::ps=>by simp[zCB,zDi ps]
theorem zEg{f:PV->PV}(hf:∀ p,p.isWay=true->(f p).isTup=false){p:PV}{ps:List PV}(h:p.mapW f = .tup ps):∃ ps',p = .tup ps'/\ps'.length=ps.length:=by
 cases hp:p.isWay with
 |true=>rw[zGy hp] at h;have:=hf p hp;rw[h] at this;cases this|false=>
  cases p<;>first|(cases hp;done)|(simp[PV.mapW] at h;done)|skip
  simp only[PV.mapW,PV.tup.injEq] at h;exact⟨_,rfl,by rw[<- h,zDi]⟩
theorem zIO(r:Nat)(pre:zA4)(p:PV)(hp:p.isWay=true):(lose r pre p).isTup=false:=by
 rcases zG6 r pre p with h|⟨_,h⟩
 ·rw[h];cases p<;>first|rfl|cases hp
 ·rw[h];rfl
theorem St.turn(S:St w0 U Φ0 nt hv a w e Φ rv E L){w':World}{Φ':Nat->Prop}(hc:Conf w0 U Φ0 w' Φ' rv' E' L')(he:∀ s,s<zAa->E' s=e'.get s)(hr:∀ s,s<zAa->rv' s=rv s)(hE:zZt E E') :
  St w0 U Φ0 nt hv a w' e' Φ' rv' E' L':=by
 have hs:=S.small;refine⟨hc,he,S.size,S.small,fun t ht=>?_,fun d ps i hd hp hi=>?_,fun s h1 h2=>?_,S.dfr⟩
 ·rw[hr t (by simp only[zAa];omega)];exact S.tmps t ht
 ·obtain⟨ps',h1,h2⟩:=hE d ps (by omega) hp;obtain⟨h3,vs,h4,h5⟩:=S.parts d ps' i hd h1 (by omega);refine⟨h3,vs,?_,?_⟩
  ·rw[hr d (by simp only[zAa];omega)];exact h4
  ·rw[hr _ (by simp only[zBD,zAa];omega)];exact h5
 ·rw[hr s (by simp only[zAI,zAa] at *;omega)];exact S.hid s h1 h2
theorem zKz{A:Al}(v:Value):Rep w Φ A (zEQ v) v []:=by
 have key:∀ cs:List Value,zBa w Φ A (cs.map fun|.int k n=>PV.int k n|.bool b=>.bool b|_=>.bad) cs []:=by
  intro cs
  induction cs with
  |nil=>exact⟨rfl,rfl⟩|cons c cs ih=>
   refine⟨c,cs,[],[],rfl,rfl,?_,ih⟩;cases c<;>first|exact⟨rfl,rfl⟩|rfl
 cases v with
 |slice x n c=>
  cases x with
  |some x=>cases n<;>cases c<;>rfl
  |none=>cases n<;>cases c<;>first|exact⟨rfl,rfl⟩|rfl
 |pointer x=>cases x<;>first|exact⟨rfl,rfl⟩|rfl
 |map x=>cases x<;>first|exact⟨rfl,rfl⟩|rfl
 |agg cs=>exact⟨cs,rfl,key _⟩|_=>first|exact⟨rfl,rfl⟩|rfl
theorem zBC(S:St w0 U Φ0 nt hv a w e Φ rv E L){x:Operand}(hx:zAZ nt x=true){k:PV->PM}(h:(opd x k).run o e=some e') :
  ∃ p,(k p).run o e=some e'/\Rep w Φ (zBb w rv E) p (a.eval x) []:=by
 have hs:=S.small
 cases x with
 |tmp t=>
  have ht:=zCh hx;have yu:(t:Nat)<zAa:=bH ht (bF S.small (by decide));refine⟨_,h,?_⟩;have:=S.conf.view yu;rw[S.env t yu] at this;simp only[Act.eval];rw[S.tmps t ht];exact this
 |const v=>exact⟨_,h,zKz v⟩|func f=>exact⟨_,h,rfl,#[],#[],rfl,⟨rfl,rfl⟩,⟨rfl,rfl⟩⟩|global g=>cases h
theorem zIc(S:St w0 U Φ0 nt hv a w e Φ rv E L):∀ {xs:List Operand},(∀ x∈xs,zAZ nt x=true)->∀ {k:List PV->PM},(zT9 xs k).run o e=some e' ->
  ∃ ps,(k ps).run o e=some e'/\zBa w Φ (zBb w rv E) ps (xs.map a.eval) []
 |[],_,k,h=>⟨[],h,rfl,rfl⟩|x::xs,hx,k,h=>by
  obtain⟨p,h1,h2⟩:=zBC S (hx x (by simp)) h;obtain⟨ps,h3,h4⟩:=zIc S (fun y hy=>hx y (by simp[hy])) h1;exact⟨p::ps,h3,_,_,[],[],rfl,rfl,h2,h4⟩
def zXM(g:Nat)(rv rv':Nat->Value)(E E':Nat->PV)(L L':Nat->LN):Prop:=∀ s,zAa<=s->s≠g->E' s=E s/\rv' s=rv s/\L' s=L s
theorem St.hold(S:St w0 U Φ0 nt hv a w e Φ rv E L){g:Nat}(hg:zAa<=g){p:PV}{v:Value}(hr:Rep w Φ (zBb w rv E) p v []):St w0 U Φ0 nt hv a w e Φ (upd rv g v) (upd E g p) (upd L g []):=by
 refine S.turn (S.conf.hold hg hr) (fun s hs=>?_) (fun s hs=>zAf (by omega)) fun d ps hd hp=>?_
 ·rw[zAf (by omega)];exact S.env s hs
 ·rw[zAf (by simp only[zAa] at hg;omega)] at hp;exact⟨ps,hp,rfl⟩
theorem zGd(S:St w0 U Φ0 nt hv a w e Φ rv E L){x:Operand}(hx:zAZ nt x=true){g:Nat}(hg:zAa<=g){k:PV->PM}(h:(zOh x k).run o e=some e') :
  ∃ e1 rv1 E1 L1,(k (E1 g)).run o e1=some e'/\St w0 U Φ0 nt hv a w e1 Φ rv1 E1 L1/\rv1 g=a.eval x/\zXM g rv rv1 E E1 L L1:=by
 have kB:=S.small;have light:∀ p,(k p).run o e=some e'->Rep w Φ (zBb w rv E) p (a.eval x) []->∃ e1 rv1 E1 L1,(k (E1 g)).run o e1=some e'/\St w0 U Φ0 nt hv a w e1 Φ rv1 E1 L1/\rv1 g=a.eval x/\zXM g rv rv1 E E1 L L1:=by
  intro p h hr;refine⟨e,_,_,_,?_,S.hold hg hr,zAi,fun s _ hI=>⟨zAf hI,zAf hI,zAf hI⟩⟩;rw[zAi];exact h
 cases x with
 | tmp t =>
  have ht:=zCh hx;have yu:(t:Nat)<zAa:=bH ht (bF S.small (by decide));have hX:=S.conf.rep t;rw[S.env t yu] at hX;have je:a.eval (.tmp t)=rv t:=S.tmps t ht;simp only[zOh,PM.run] at h;split at h
  ·cases h
  ·rename_i p _;split at h
   ·rename_i hh;simp only[PM.run] at h;refine⟨_,_,_,_,?_,S.turn (e':=e.set t .bad) (S.conf.take yu hg) (fun s hs=>?_) (fun s hs=>zAf (by omega)) (fun d ps hd hp=>?_),by rw[zAi,je],fun s h1 h2=>?_⟩
    ·rw[zAi,S.env t yu];exact h
    ·rw[zAf (by omega),Env.get_set];by_cases h2:s=t
     ·subst h2;rw[zAi,if_pos rfl]
     ·rw[zAf h2,if_neg h2];exact S.env s hs
    ·rw[zAf (by simp only[zAa] at hg;omega)] at hp;by_cases h2:d=t
     ·subst h2;rw[zAi] at hp;cases hp
     ·rw[zAf h2] at hp;exact⟨ps,hp,rfl⟩
    ·have h3:s≠t:=by intro h;subst h;exact absurd yu (Nat.not_lt.2 h1)
     rw[zAf h2,zAf h2,zAf h2,zAf h3,zAf h3];exact⟨rfl,rfl,rfl⟩
   ·rename_i hh;simp only[cu] at hh;have hL:=zDy _ _ _ hh hX;rw[hL] at hX;exact light _ h (by rw[je];exact hX)
 |const v=>exact light _ h (zKz v)|func f=>exact light _ h ⟨rfl,#[],#[],rfl,⟨rfl,rfl⟩,⟨rfl,rfl⟩⟩|global g=>cases h
theorem zTu(S:St w0 U Φ0 nt hv a w e Φ rv E L){d g:Nat}(vI:d<zAa)(hg:zAa<=g){k:PM}(h:(lay d (E g) k).run o e=some e') :
  ∃ e1 E1 L1,k.run o e1=some e'/\Conf w0 U Φ0 w Φ (upd rv d (rv g)) E1 L1/\(∀ s,s<zAa->E1 s=e1.get s)/\(∀ s,s≠d->s<zAa->E1 s=E s\/E1 s=(E s).mapW (lose d [])) /\
   (E1 d=E g\/E1 d=(E g).mapW (lose d []))/\E1 g = .bad/\∀ s,zAa<=s->s≠g->E1 s=E s\/E1 s=(E s).mapW (lose d []):=by
 have vf:d≠g:=by omega
 simp only[lay] at h
 cases hh:(E g).heavy with
 | true =>
  rw[hh] at h;simp only[cond_true,PM.run] at h;refine⟨_,_,_,h,S.conf.lay vI hg,fun s hs=>?_,fun s hs uH=>.inr ?_,.inr ?_,zAi,fun s h1 h2=>.inr ?_⟩
  ·rw[zAf (by omega),Env.get_set,Env.get_kill];by_cases h2:s=d
   ·subst h2;rw[zAi,if_pos rfl]
   ·rw[zAf h2,if_neg h2,S.env s hs]
  ·rw[zAf (by omega),zAf hs]
  ·rw[zAf (by omega),zAi]
  ·rw[zAf h2,zAf (by omega)]
 | false =>
  rw[hh] at h;simp only[cond_false,PM.run] at h;have hX:=S.conf.rep g;rw[zDy _ _ _ hh hX] at hX;have h1:=S.conf.put (s:=d) hh hX;have h2:=h1.drop fun s=>s==g;refine⟨_,_,_,h,h2,fun s hs=>?_,fun s hs uH=>.inl ?_,.inl ?_,by simp,fun s h1 h2=>.inl ?_⟩
  ·rw[Env.get_set];have:(s==g)=false:=by simp;omega
   simp only[this,bp,if_false];by_cases h2:s=d
   ·subst h2;rw[zAi,if_pos rfl]
   ·rw[zAf h2,if_neg h2,S.env s hs]
  ·have:(s==g)=false:=by simp;omega
   simp[this,zAf hs]
  ·have:(d==g)=false:=by simp;omega
   simp[this,zAi]
  ·have:(s==g)=false:=by simp[h2]
   simp[this,zAf (show s≠d by omega)]
theorem zWf(S:St w0 U Φ0 nt hv a w e Φ rv E L){d g:Nat}(hd:d<zAk)(hg:zAa<=g){k:PM}(h:(lay d (E g) k).run o e=some e') :
  ∃ e1 E1 L1,k.run o e1=some e'/\Conf w0 U Φ0 w Φ (upd rv d (rv g)) E1 L1/\(∀ s,s<zAa->E1 s=e1.get s)/\(∀ s,s≠d->s<zAa->E1 s=E s\/E1 s=(E s).mapW (lose d [])) /\
   (E1 d=E g\/E1 d=(E g).mapW (lose d []))/\E1 g = .bad/\∀ s,zAa<=s->s≠g->E1 s=E s\/E1 s=(E s).mapW (lose d []) :=
 zTu S (by simp only[zAk,zAa] at *;omega) hg h
theorem Act.put_tmps(a:Act){d:Nat}{v:Value}(hd:d<a.tmps.size)(t:Nat):(a.put (some d) v).tmps.getD t undef=if t=d then v else a.tmps.getD t undef:=by
 simp only[Act.put,da,dN];by_cases h:t=d
 ·subst h;simp[hd]
 ·rw[if_neg (dA h),if_neg h]
theorem zF0(S:St w0 U Φ0 nt hv a w e Φ rv E L){d:ON}(hd:∀ x,d=some x->x<nt){g:Nat}(hg:zAa<=g)(h:(put d (E g)).run o e=some e')(hb:∀ s,zAa<=s->s≠g->E s = .bad) :
  Fr w0 U Φ0 nt hv (a.put d (rv g)) w e':=by
 have kB:=S.small
 cases d with
 | none =>
  simp only[put,PM.run,ba] at h;subst h;have h2:=S.conf.drop fun s=>s==g;refine⟨_,_,_,_,S.turn h2 (fun s hs=>?_) (fun _ _=>rfl) (fun d ps hd hp=>?_),fun s hs=>?_⟩
  ·have:(s==g)=false:=by simp;omega
   simp only[this,bp,if_false];exact S.env s hs
  ·have:(d==g)=false:=by simp only[zAa] at hg;simp;omega
   simp only[this,bp,if_false] at hp;exact⟨ps,hp,rfl⟩
  ·by_cases h3:s=g
   ·subst h3;simp
   ·have:(s==g)=false:=by simp[h3]
    simp only[this,bp,if_false];exact hb s hs h3
 | some d =>
  have ua:=hd d rfl;have hds:d<a.tmps.size:=by rw[S.size];exact ua
  simp only[put] at h
  cases ht:(E g).isTup with
  |true=>rw[ht] at h;cases h
  | false =>
   rw[ht] at h;simp only[cond_false] at h;obtain⟨e1,E1,L1,h1,h2,h3,h4,h5,h6,h7⟩:=zWf S (by simp only[zAk];omega) hg h;simp only[PM.run,ba] at h1;subst h1;refine⟨_,_,_,_,⟨h2,h3,by simp only[Act.put,iq];exact S.size,S.small,fun t htn=>?_,fun d' ps i qH hp hi=>?_,fun s vJ uH=>?_,S.dfr⟩,fun s hs=>?_⟩
   ·rw[Act.put_tmps a hds];by_cases vN:t=d
    ·subst vN;simp[zAi]
    ·rw[if_neg vN,zAf vN];exact S.tmps t htn
   ·have vf:d'≠d:=by
     intro hc;subst hc;rcases h5 with h5|h5
     ·rw[h5] at hp;rw[hp] at ht;cases ht
     ·rw[h5] at hp;obtain⟨ps',h8,_⟩:=zEg (zIO d' []) hp;rw[h8] at ht;cases ht
    have:∃ ps',E d' = .tup ps'/\ps'.length=ps.length:=by
     rcases h4 d' vf (by simp only[zAa];omega) with h8|h8
     ·exact⟨ps,by rw[<- h8,hp],rfl⟩
     ·rw[h8] at hp;exact zEg (zIO d []) hp
    obtain⟨ps',h8,h9⟩:=this;obtain⟨jZ,vs,vg,h12⟩:=S.parts d' ps' i qH h8 (by omega);exact⟨jZ,vs,by rw[zAf vf];exact vg,by rw[zAf (by simp only[zBD];omega)];exact h12⟩
   ·rw[zAf (by simp only[zAk] at vJ;omega)];exact S.hid s vJ uH
   ·by_cases h8:s=g
    ·subst h8;exact h6
    ·rcases h7 s hs h8 with h9|h9
     ·rw[h9];exact hb s hs h8
     ·rw[h9,hb s hs h8];rfl
end
end Go.Eng
namespace Go.Eng
open Go
theorem zBS{α:Type}{x:Option α}{k:α->PM}{o:zAM}{e e':Env}(h:(zJa x k).run o e=some e'):∃ a,x=some a/\(k a).run o e=some e':=by
 cases x with
 |none=>cases h|some a=>exact⟨a,rfl,h⟩
theorem zEi{p:PV}{k:Nat->PM}{o:zAM}{e e':Env}(h:(zGN p k).run o e=some e'):∃ ik n,p = .int ik n/\0<=n/\(k n.toNat).run o e=some e':=by
 cases p<;>try (cases h;done)
 rename_i ik n;simp only[zGN] at h;split at h
 ·exact⟨ik,n,rfl,‹_›,h⟩
 ·cases h
theorem zDt{c:Prop}[Decidable c]{k:PM}{o:zAM}{e e':Env}(h:(if c then k else .fail).run o e=some e'):c/\k.run o e=some e':=by
 split at h
 ·exact⟨‹_›,h⟩
 ·cases h
theorem zAR{c:Bool}{k:PM}{o:zAM}{e e':Env}(h:(bif c then k else .fail).run o e=some e'):c=true/\k.run o e=some e':=by
 cases c
 ·cases h
 ·exact⟨rfl,h⟩
section
variable {P:Program} {w0 w:World} {U Φ0 Φ:Nat->Prop} {nt:Nat} {hv:Hid} {a:Act} {e e':Env} {rv rv':Nat->Value} {E E':Nat->PV} {L L':Nat->LN} {o:zAM} {A:Al}
def zBz(E:Nat->PV):Prop:=∀ g,zAa<=g->E g = .bad
theorem zAE(S:St w0 U Φ0 nt hv a w e Φ rv E L)(hb:zBz E){d:ON}(hd:∀ x,d=some x->x<nt){p:PV}{v:Value}(h:(put d p).run o e=some e')(hr:Rep w Φ (zBb w rv E) p v []) :
  Fr w0 U Φ0 nt hv (a.put d v) w e':=by
 have:=zF0 (S.hold (bi zAa) hr) hd (bi zAa) (by rw[zAi];exact h) (fun s hs hI=>by rw[zAf hI];exact hb s hs);rwa[zAi] at this
theorem zXf(S:St w0 U Φ0 nt hv a w e Φ rv E L)(hb:zBz E){d:ON}(hd:∀ x,d=some x->x<nt){c x y:Operand}(hc:zAZ nt c=true)(hx:zAZ nt x=true)(hy:zAZ nt y=true)
  (h:(zWg d c x y).run o e=some e'):∃ t,a.eval c = .bool t/\Fr w0 U Φ0 nt hv (a.put d (if t then a.eval x else a.eval y)) w e':=by
 obtain⟨p,h1,h2⟩:=zBC S hc h;cases p<;>simp only[zVP] at h1<;>try (cases h1;done)
 rename_i t;refine⟨t,h2.1,?_⟩;cases t
 ·obtain⟨q,h3,h4⟩:=zBC S hy h1;exact zAE S hb hd h3 h4
 ·obtain⟨q,h3,h4⟩:=zBC S hx h1;exact zAE S hb hd h3 h4
theorem zXT(S:St w0 U Φ0 nt hv a w e Φ rv E L)(hb:zBz E){d:ON}(hd:∀ x,d=some x->x<nt){x:Operand}(hx:zAZ nt x=true)(h:(opd x (zZb d)).run o e=some e') :
  (match a.eval x with|.pointer none|.nilIface|.nilFunc|.func (.method _) _ _=>False|_=>True)/\Fr w0 U Φ0 nt hv (a.put d (a.eval x)) w e':=by
 obtain⟨p,h1,h2⟩:=zBC S hx h;cases p<;>simp only[zZb] at h1<;>try (cases h1;done)
 case ref q=>refine⟨?_,zAE S hb hd h1 h2⟩;obtain⟨_,b,c,u,h3,_⟩:=h2;rw[h3];trivial
 case func=>refine⟨?_,zAE S hb hd h1 h2⟩;obtain⟨_,fs,cs,h3,_⟩:=h2;rw[h3];trivial
 case addr=>refine⟨?_,zAE S hb hd h1 h2⟩;obtain⟨_,_,b,h3,_⟩:=h2;rw[h3];trivial
 case yld=>refine⟨?_,zAE S hb hd h1 h2⟩;rw[h2.2];trivial
theorem zZn(S:St w0 U Φ0 nt hv a w e Φ rv E L)(hb:zBz E){d:ON}(hd:∀ x,d=some x->x<nt){op:UnOp}{x:Operand}(hx:zAZ nt x=true)(h:(opd x (unV d op)).run o e=some e') :
  ∃ v,(Op.unary op (a.eval x)).run P w = .ok v w/\Fr w0 U Φ0 nt hv (a.put d v) w e':=by
 obtain⟨p,h1,h2⟩:=zBC S hx h;simp only[unV] at h1;split at h1
 ·rename_i b;exact⟨.bool !b,by rw[h2.1];rfl,zAE S hb hd h1 ⟨rfl,rfl⟩⟩
 ·rename_i k n;exact⟨.int k (k.wrap (0-n)),by rw[h2.1];rfl,zAE S hb hd h1 ⟨rfl,rfl⟩⟩
 ·cases h1
theorem zXK(S:St w0 U Φ0 nt hv a w e Φ rv E L)(hb:zBz E){d:ON}(hd:∀ x,d=some x->x<nt){s t:TypeId}(hs:(P.underlying s).isSome=true){x:Operand}(hx:zAZ nt x=true)(h:(opd x (zSr P d t)).run o e=some e') :
  ∃ v,(convert s t (a.eval x)).run P w = .ok v w/\Fr w0 U Φ0 nt hv (a.put d v) w e':=by
 obtain⟨p,h1,h2⟩:=zBC S hx h;simp only[zSr] at h1;split at h1
 ·rename_i k k' n ht;refine⟨.int k (k.wrap n),?_,zAE S hb hd h1 ⟨rfl,rfl⟩⟩;obtain⟨ds,hds⟩:=dE.1 hs;rw[h2.1];simp only[convert,bo,run_underlying ht,run_underlying hds,bh];rfl
 ·cases h1
theorem zWk(S:St w0 U Φ0 nt hv a w e Φ rv E L)(hb:zBz E){d:ON}(hd:∀ x,d=some x->x<nt){f:FuncId}{fs cs:Array Operand}(hf:∀ x∈fs.toList,zAZ nt x=true)(hc:∀ x∈cs.toList,zAZ nt x=true)
  (h:(zKU d f fs.toList cs.toList).run o e=some e'):Fr w0 U Φ0 nt hv (a.put d (.func (.func f) (fs.map a.eval) (cs.map a.eval))) w e':=by
 obtain⟨ps,h1,h2⟩:=zIc S hf h;obtain⟨qs,h3,h4⟩:=zIc S hc h1;exact zAE S hb hd h3 ⟨rfl,_,_,rfl,by simpa using h2,by simpa using h4⟩
theorem zFw{t:TypeId}{sh:ON}(h:shT P t=some sh):∃ i,P.info? t=some i/\(isAgg t).run P w = .ok sh.isSome w/\(∀ n,sh=some n->n=i.size)/\(sh=none->i.size=1):=by
 simp only[shT] at h
 cases hu:P.underlying t with
 |none=>rw[hu] at h;cases h
 | some td =>
  have hr:=run_underlying (w:=w) hu
  cases hi:P.info? t with
  |none=>rw[hu,hi] at h;cases td<;>cases h
  | some i =>
   rw[hu,hi] at h;refine⟨i,rfl,?_⟩;cases td<;>simp only at h<;>first|(cases h;exact⟨by simp only[isAgg,bo,hr,bh];rfl,fun n hn=>by cases hn;rfl,fun hn=>by cases hn⟩)|skip
   all_goals
    split at h
    ·rename_i h1;cases h;exact⟨by simp only[isAgg,bo,hr,bh];rfl,(by intro n hn;cases hn),fun _=>h1⟩
    ·cases h
theorem zA8{t:TypeId}{i:TypeInfo}(h:P.info? t=some i):(sizeOf t).run P w = .ok i.size w:=by
 simp[sizeOf,typeInfo,h]
theorem zGi{t:TypeId}{sh:ON}(hs:shT P t=some sh){p q:PV}{cs:Array Value}{off:Nat}(hp:Rep w Φ A p (.agg cs) [])(h:sub p off sh=some q) :
  ∃ u,(part t cs off).run P w = .ok u w/\Rep w Φ A q u []:=by
 obtain⟨i,hi,jC,h1,h2⟩:=zFw (w:=w) hs;cases p<;>try (cases sh<;>cases h;done)
 rename_i ps;obtain⟨vs,hv,hr⟩:=hp;cases hv;have hZ:=hr.length
 cases sh with
 | some n =>
  simp only[sub] at h;split at h
  ·rename_i yR;cases h;have hn:=h1 n rfl;subst hn;refine⟨.agg (cs.extract off (off+i.size)),?_,?_⟩
   ·simp only[part,bo,jC,bh,ia,if_true,zA8 hi];rfl
   ·refine⟨_,rfl,?_⟩;rw[Array.toList_extract];have:=zCc hr off i.size;simpa[List.extract] using this
  ·cases h
 | none =>
  simp only[sub] at h;obtain⟨u,La,Li,Lb,hu,hL,uI,_,_⟩:=hr.split h;have hu':cs[off]? = some u:=by simpa using hu
  have:Li=[]:=by
   have:=congrArg length hL;simp at this;exact bq (by omega)
  subst this;refine⟨u,?_,uI⟩;simp only[part,bo,jC,bh,dR,bp,if_false,hu'];rfl
theorem zN8{eq:TypeId->PV->PV->Option Bool}{d:Nat}{p q:PV}{xs ys:Array Value}(hp:Rep w Φ A p (.agg xs) [])(hq:Rep w Φ A q (.agg ys) [])
  (hd:∀ t p q b x y,eq t p q=some b->Rep w Φ A p x []->Rep w Φ A q y []->(Op.equalIn d t x y).run P w = .ok b w) :
  ∀ (fs:List Field) (b:Bool),zVD eq (shT P) p q fs=some b->(Op.eqFields d xs ys fs).run P w = .ok b w
 |[],b,h=>by simp only[zVD,ba] at h;subst h;rfl
 | f :: fs,b,h=>by
  simp only[zVD] at h;simp only[Op.eqFields];split at h
  ·rename_i hn;rw[if_neg (by simp[hn])];exact zN8 hp hq hd fs b h
  ·rename_i hn;rw[if_pos hn]
   cases hs:shT P f.type with
   |none=>rw[hs] at h;cases h
   | some sh =>
    rw[hs] at h;simp only at h;split at h
    ·rename_i a1 b1 h1 h2;obtain⟨u1,h3,h4⟩:=zGi hs hp h1;obtain⟨u2,h5,h6⟩:=zGi hs hq h2;simp only[bo,h3,h5,bh]
     cases he:eq f.type a1 b1 with
     |none=>rw[he] at h;cases h
     | some r =>
      rw[hd _ _ _ _ _ _ he h4 h6];rw[he] at h;simp only[bh]
      cases r with
      |true=>
       simp only[dy,bp,if_false];exact zN8 hp hq hd fs b h
      |false=>
       simp only[ba] at h;subst h;simp
    ·cases h
theorem zTZ{eq:PV->PV->Option Bool}{d:Nat}{e:TypeId}{sh:ON}{i:TypeInfo}(hs:shT P e=some sh)(hi:P.info? e=some i){p q:PV}{xs ys:Array Value}(hp:Rep w Φ A p (.agg xs) [])(hq:Rep w Φ A q (.agg ys) [])
  (hd:∀ p q b x y,eq p q=some b->Rep w Φ A p x []->Rep w Φ A q y []->(Op.equalIn d e x y).run P w = .ok b w) :
  ∀ (n k:Nat) (b:Bool),zV4 eq sh i.size p q k n=some b ->
   ((forIn (List.range' k n 1) ((none,()):Option Bool×Unit) fun i' r=>do
    let a <- part e xs (i'*i.size)
    let c <- part e ys (i'*i.size)
    if !(<- Op.equalIn d e a c) then pure (.done (some false,())) else pure (.yield (none,()))):Sem _).run P w = .ok (if b then(none,()) else(some false,())) w
 |0,k,b,h=>by simp only[zV4,ba] at h;subst h;simp
 | n + 1,k,b,h=>by
  simp only[zV4] at h;simp only[fq,iD,bo];split at h
  ·rename_i a1 b1 h1 h2;obtain⟨u1,h3,h4⟩:=zGi hs hp h1;obtain⟨u2,h5,h6⟩:=zGi hs hq h2;simp only[h3,h5,bh]
   cases he:eq a1 b1 with
   |none=>rw[he] at h;cases h
   | some r =>
    rw[hd _ _ _ _ _ he h4 h6];rw[he] at h;simp only[bh]
    cases r with
    |true=>
     simp only[dy,bp,if_false,bx,bh];exact zTZ hs hi hp hq hd n (k+1) b h
    |false=>
     simp only[ba] at h;subst h;simp
  ·cases h
theorem zK6:∀ (n:Nat) (t:TypeId) (p q:PV) (b:Bool) (x y:Value) (d:Nat),n<=d->eqT P n t p q=some b->Rep w Φ A p x []->Rep w Φ A q y []->(Op.equalIn d t x y).run P w = .ok b w
 |0,t,p,q,b,x,y,d,hd,h,hp,hq=>by cases h|n+1,t,p,q,b,x,y,0,hd,h,hp,hq=>by omega
 | n + 1,t,p,q,b,x,y,d+1,hd,h,hp,hq=>by
  have yR:n<=d:=by omega
  simp only[eqT] at h;split at h
  ·rename_i k0 k a1 k' b1 ht;rw[hp.1,hq.1];split at h
   ·rename_i hk;subst hk;cases h;exact run_equalIn_int w d t k k0 a1 b1 ht
   ·cases h
  ·rename_i a1 b1 ht;rw[hp.1,hq.1];cases h;exact run_equalIn_bool' w d t a1 b1 ht
  ·rename_i el ht;rw[hp.1,hq.1];cases h;simp[Op.equalIn,run_underlying ht]
  ·rename_i fs xs ys ht
   cases yC:P.stoodInHeld t with
   |true=>rw[yC] at h;cases h|false=>
    rw[yC] at h;simp only[cond_false] at h;obtain⟨vs,rfl,jq⟩:=hp;obtain⟨us,rfl,jp⟩:=hq;have vO:P.fieldsOf t=fs:=by simp[Program.fieldsOf,ht]
    rw[run_equalIn_struct w d t vs us (by rw[vO];exact ht) yC,vO];exact zN8 (p := .agg xs) (q := .agg ys) ⟨vs,rfl,jq⟩ ⟨us,rfl,jp⟩ (fun t p q b x y he h1 h2=>zK6 n t p q b x y d yR he h1 h2) fs.toList b h
  ·rename_i len el xs ys ht;split at h
   ·rename_i sz sh yG jf;obtain⟨vs,rfl,jq⟩:=hp;obtain⟨us,rfl,jp⟩:=hq;obtain⟨i,hi,_⟩:=zFw (w:=w) jf;have gp:i.size=sz:=by simp only[szT,hi,bu,ba] at yG;exact yG
    subst gp;have:=zTZ (p := .agg xs) (q := .agg ys) jf hi ⟨vs,rfl,jq⟩ ⟨us,rfl,jp⟩ (fun p q b x y he h1 h2=>zK6 n el p q b x y d yR he h1 h2) len 0 b h;simp only[Op.equalIn,bo,run_underlying ht,bh,zA8 hi,fA,Std.Legacy.Range.size,dt,fD,Nat.div_one];rw[this];cases b<;>simp
   ·cases h
  ·cases h
theorem zVx{n:Nat}{t:TypeId}{p q:PV}{b:Bool}(h:eqT P n t p q=some b)(ha:p.isAgg=false):(∃ k n k' m,p = .int k n/\q = .int k' m)\/(∃ b,p = .bool b)\/p = .nilp:=by
 cases n with
 |zero=>cases h|succ n=>
  simp only[eqT] at h;split at h
  ·exact .inl ⟨_,_,_,_,rfl,rfl⟩
  ·exact .inr (.inl ⟨_,rfl⟩)
  ·exact .inr (.inr rfl)
  ·cases ha
  ·cases ha
  ·cases h
theorem zVe{t:TypeId}{p q:PV}(hn:∀ z,q ≠ .nils z)(ha:∀ ys,q ≠ .agg ys):eqV P t p q=bif p.isAgg then none else eqT P 20 t p q:=by
 cases q<;>first|rfl|exact absurd rfl (hn _)|exact absurd rfl (ha _)
def zZB:Value->Bool
 |.bool _|.pointer _|.slice ..|.agg _=>true|_=>false
theorem zRp{t:TypeId}{x y:Value}{b:Bool}(hx:zZB x=true)(h:(Op.equal t x y).run P w = .ok b w):(binOp .eql t x y).run P w = .ok (.bool b) w/\(binOp .neq t x y).run P w = .ok (.bool !b) w:=by
 have h1:binOp .eql t x y=(do pure (.bool (<- Op.equal t x y))):=by cases x<;>first|(cases hx;done)|rfl
 have h2:binOp .neq t x y=(do pure (.bool (!(<- Op.equal t x y)))):=by cases x<;>first|(cases hx;done)|rfl
 rw[h1,h2];simp only[bo,h,bh];exact⟨rfl,rfl⟩
theorem zVo{t:TypeId}{p:PV}{z:Nat}{b:Bool}{x:Value}(h:eqV P t p (.nils z)=some b)(hA:∀ a v,a.isWay=true->A a v->∀ r pre z lo n,a = .bor r pre z lo n->∃ b c,v = .slice b n c/\n<=c/\(b=none->c=0))
  (hp:Rep w Φ A p x []):(∃ a n c,x = .slice a n c)/\(Op.equal t x (.slice none 0 0)).run P w = .ok b w:=by
 cases ht:P.underlying t with
 |none=>simp[eqV,ht] at h|some td=>
 by_cases yy:∃ e,td = .slice e
 ·obtain⟨e,rfl⟩:=yy;by_cases hnp:∃ z',p = .nils z'
  ·obtain⟨z',rfl⟩:=hnp;simp only[eqV,ht,ba] at h;subst h;rw[hp.1];exact⟨⟨_,_,_,rfl⟩,run_equal_slice_nil w t e none 0 0 ht⟩
  have hh:(bif zFt p then some false else none)=some b:=by
   rw[<- h];cases p<;>first|(simp only[eqV,ht];done)|exact absurd ⟨_,rfl⟩ hnp
  have key:∀ a n c,x = .slice (some a) n c->b=false->(∃ a n c,x = .slice a n c)/\(Op.equal t x (.slice none 0 0)).run P w = .ok b w:=by
   intro a n c hx hb;subst hx;subst hb;exact⟨⟨_,_,_,rfl⟩,run_equal_slice_nil w t e (some a) n c ht⟩
  cases jm:zFt p with
  |false=>rw[jm] at hh;cases hh
  | true =>
   rw[jm] at hh;simp only[cond_true,ba] at hh;cases p<;>simp only[zFt] at jm<;>try (cases jm;done)
   case nn=>
    obtain⟨_,a,n,h1⟩:=hp;exact key a 0 n h1 hh.symm
   case sl xs=>
    cases xs with
    |nil=>cases jm|cons x0 xs=>
     obtain⟨_,⟨h1,_⟩|⟨a,n,c,us,sz,h1,_⟩⟩:=hp
     ·cases h1
     ·exact key a _ n h1 hh.symm
   case own sz xs=>
    cases xs with
    |nil=>cases jm|cons x0 xs=>
     obtain⟨h1,_⟩|⟨a,n,c,us,L',h0,_⟩:=hp
     ·cases h1
     ·cases h0
   case bor r pre z lo n=>
    cases n with
    |zero=>cases jm|succ n=>
     obtain⟨b',c,h1,h2,h3⟩:=hA _ _ rfl hp.2 r pre z lo (n+1) rfl
     cases b' with
     |none=>have:=h3 rfl;omega|some a=>exact key a _ c h1 hh.symm
 ·cases td<;>first|exact absurd ⟨_,rfl⟩ yy|simp[eqV,ht] at h
theorem zV1{t:TypeId}{p q:PV}{b:Bool}{x y:Value}(h:eqV P t p q=some b)(hA:∀ a v,a.isWay=true->A a v->∀ r pre z lo n,a = .bor r pre z lo n->∃ b c,v = .slice b n c/\n<=c/\(b=none->c=0))
  (hp:Rep w Φ A p x []) (hq:Rep w Φ A q y []) (hni:∀ k n k' m,p = .int k n->q = .int k' m->False) (op:BinOp) (xo yo:Operand) :
  (eqGuard op t xo yo x y).run P w = .ok () w/\(Op.equal t x y).run P w = .ok b w/\zZB x=true:=by
 by_cases hn:∃ z,q = .nils z
 ·obtain⟨z,rfl⟩:=hn;have hy:y = .slice none 0 0:=hq.1;subst hy;obtain⟨⟨a,n,c,rfl⟩,h2⟩:=zVo h hA hp;exact⟨by rw[eqGuard_at_slice];rfl,h2,rfl⟩
 ·by_cases ha:∃ ys,q = .agg ys
  ·obtain⟨ys,rfl⟩:=ha;simp only[eqV] at h;split at h
   ·rename_i xs
    cases hg:P.eqGuardType P.depth t with
    |true=>rw[hg] at h;cases h|false=>
     rw[hg] at h;simp only[cond_false] at h;have:=zK6 20 t _ _ b x y 10000 (by decide) h hp hq;obtain⟨vs,rfl,_⟩:=hp;obtain⟨us,rfl,_⟩:=hq;exact⟨run_eqGuard_agg w op t xo yo vs us hg,this,rfl⟩
   ·cases h
  ·rw[zVe (fun z hz=>hn ⟨z,hz⟩) (fun ys hy=>ha ⟨ys,hy⟩)] at h
   cases uk:p.isAgg with
   |true=>rw[uk] at h;cases h
   | false =>
    rw[uk] at h;simp only[cond_false] at h;have h2:=zK6 20 t _ _ b x y 10000 (by decide) h hp hq;rcases zVx h uk with⟨k,n,k',m,h3,h4⟩|⟨b',h3⟩|h3
    ·exact absurd h4 fun h4=>hni k n k' m h3 h4
    ·subst h3;have hx:x = .bool b':=hp.1
     subst hx;exact⟨by rw[eqGuard_at_bool];rfl,h2,rfl⟩
    ·subst h3;have hx:x = .pointer none:=hp.1
     subst hx;exact⟨by rw[eqGuard_at_pointer];rfl,h2,rfl⟩
theorem zVS:∀ a v,a.isWay=true->zBb w rv E a v->∀ r pre z lo n,a = .bor r pre z lo n->∃ b c,v = .slice b n c/\n<=c/\(b=none->c=0):=by
 intro a v _ h r pre z lo n ha;subst ha;obtain⟨_,⟨b,c,h1,h2,h3,_⟩,_⟩:=h;exact⟨b,c,h1,h2,h3⟩
theorem zVC{op:BinOp}{t:TypeId}{k:IntKind}{x y:Int}{r:PV}(h:zU1 op k x y=some r)(hs:op ≠ .shl/\op ≠ .shr):∃ v,(binOp op t (.int k x) (.int k y)).run P w = .ok v w/\Rep w Φ A r v []:=by
  cases op<;>simp only[zU1] at h<;>try (cases h;done)
  case quo => split at h
              · cases h
              · rename_i hy;cases h;exact⟨.int k (k.wrap (x.tdiv y)),by simp[binOp,Op.intDiv,hy],rfl,rfl⟩
  case rem => split at h
              · cases h
              · rename_i hy;cases h;exact⟨.int k (x.tmod y),by simp[binOp,Op.intDiv,hy],rfl,rfl⟩
  all_goals
    simp only[ba] at h;subst h
    first
    |exact⟨_,by simp[binOp,Op.intArith];rfl,rfl,rfl⟩
    |exact⟨_,by simp[binOp,Op.intCmp];rfl,rfl,rfl⟩
    |exact⟨_,by simp[binOp,Op.intBits];rfl,rfl,rfl⟩
theorem zXU(S:St w0 U Φ0 nt hv a w e Φ rv E L)(hb:zBz E){d:ON}(hd:∀ x,d=some x->x<nt){op:BinOp}{t:TypeId}{x y:Operand}(hx:zAZ nt x=true)(hy:zAZ nt y=true)(h:(zUE P d op t x y).run o e=some e') :
  ∃ v,(do eqGuard op t x y (a.eval x) (a.eval y);binOp op t (a.eval x) (a.eval y)).run P w = .ok v w/\Fr w0 U Φ0 nt hv (a.put d v) w e':=by
 obtain⟨p,h1,hp⟩:=zBC S hx h;obtain⟨q,h2,hq⟩:=zBC S hy h1;obtain⟨r,h3,h4⟩:=zBS h2;have fin:∀ v,(eqGuard op t x y (a.eval x) (a.eval y)).run P w = .ok () w->(binOp op t (a.eval x) (a.eval y)).run P w = .ok v w->Rep w Φ (zBb w rv E) r v []->∃ v,(do eqGuard op t x y (a.eval x) (a.eval y);binOp op t (a.eval x) (a.eval y)).run P w = .ok v w/\Fr w0 U Φ0 nt hv (a.put d v) w e':=by
  intro v g1 g2 g3;refine⟨v,?_,zAE S hb hd h4 g3⟩;simp only[bo,g1,bh];exact g2
 simp only[zHT] at h3;split at h3
 ·rename_i k n _ m;split at h3
  ·cases h3
  ·rename_i hm;cases h3;refine fin (.int k (k.wrap (n*2 ^ (min m.toNat k.bits)))) ?_ ?_ ⟨rfl,rfl⟩
   ·rw[hp.1,eqGuard_at_int];rfl
   ·rw[hp.1,hq.1];simp[binOp,Op.shift,hm]
 ·rename_i k n _ m;split at h3
  ·cases h3
  ·rename_i hm;cases h3;refine fin (.int k (n.fdiv (2 ^ (min m.toNat k.bits)))) ?_ ?_ ⟨rfl,rfl⟩
   ·rw[hp.1,eqGuard_at_int];rfl
   ·rw[hp.1,hq.1];simp[binOp,Op.shift,hm]
 ·rename_i k n k' m hns1 hns2;split at h3
  ·rename_i hk;subst hk;obtain⟨v,g1,g2⟩:=zVC (P:=P) (w:=w) (Φ:=Φ) (A:=zBb w rv E) (t:=t) h3 ⟨fun hc=>hns1 hc,fun hc=>hns2 hc⟩;refine fin v ?_ ?_ g2
   ·rw[hp.1,eqGuard_at_int];rfl
   ·rw[hp.1,hq.1];exact g1
  ·cases h3
 ·rename_i vP;simp only[bm] at h3;obtain⟨b,h5,rfl⟩:=h3;obtain⟨g1,g2,g3⟩:=zV1 h5 zVS hp hq (fun k n k' m h1 h2=>vP k n k' m h1 h2) .eql x y;exact fin (.bool b) g1 (zRp g3 g2).1 ⟨rfl,rfl⟩
 ·rename_i vP;simp only[bm] at h3;obtain⟨b,h5,rfl⟩:=h3;obtain⟨g1,g2,g3⟩:=zV1 h5 zVS hp hq (fun k n k' m h1 h2=>vP k n k' m h1 h2) .neq x y;exact fin (.bool !b) g1 (zRp g3 g2).2 ⟨rfl,rfl⟩
 ·cases h3
theorem zU3(S:St w0 U Φ0 nt hv a w e Φ rv E L)(hb:zBz E){d:ON}(hd:∀ x,d=some x->x<nt){t:TypeId}{x:Operand}{i:Nat}(hx:zAZ nt x=true)(h:(zTT P d t x i).run o e=some e') :
  ∃ v,(Instr.field t (a.eval x) i).run P w = .ok v w/\Fr w0 U Φ0 nt hv (a.put d v) w e':=by
 obtain⟨p,h1,hp⟩:=zBC S hx h;obtain⟨f,h2,h3⟩:=zBS h1;obtain⟨sh,h4,h5⟩:=zBS h3;obtain⟨q,h6,h7⟩:=zBS h5;have uk:∃ cs,p = .agg cs:=by cases p<;>first|exact⟨_,rfl⟩|(cases sh<;>cases h6)
 obtain⟨cs,rfl⟩:=uk;obtain⟨vs,hv,hr⟩:=hp;obtain⟨u,h8,h9⟩:=zGi (P:=P) h4 (p := .agg cs) ⟨vs,rfl,hr⟩ h6;refine⟨u,?_,zAE S hb hd h7 h9⟩;simp only[zMe] at h2
 cases ht:P.underlying t with
 |none=>rw[ht] at h2;cases h2|some td=>
  rw[ht] at h2;cases td<;>simp only at h2<;>try (cases h2;done)
  rw[hv];simp only[Instr.field,bo,run_underlying ht,bh,h2,asAgg,bx];exact h8
theorem zUO(S:St w0 U Φ0 nt hv a w e Φ rv E L)(hb:zBz E){d:ON}(hd:∀ x,d=some x->x<nt){t:TypeId}{x i:Operand}(hx:zAZ nt x=true)(hi:zAZ nt i=true)(h:(zLw P d t x i).run o e=some e') :
  ∃ v,(Instr.index t (a.eval x) (a.eval i)).run P w = .ok v w/\Fr w0 U Φ0 nt hv (a.put d v) w e':=by
 obtain⟨p,h1,hp⟩:=zBC S hx h;obtain⟨pi,h2,hpi⟩:=zBC S hi h1;obtain⟨ik,n,rfl,hn,h3⟩:=zEi h2;split at h3
 ·rename_i len el ht;split at h3
  ·rename_i s sh hs jf;obtain⟨yL,h4⟩:=zDt h3;obtain⟨q,h5,h6⟩:=zBS h4;have uk:∃ cs,p = .agg cs:=by cases p<;>first|exact⟨_,rfl⟩|(cases sh<;>cases h5)
   obtain⟨cs,rfl⟩:=uk;obtain⟨vs,hv,hr⟩:=hp;obtain⟨u,h8,h9⟩:=zGi (P:=P) jf (p := .agg cs) ⟨vs,rfl,hr⟩ h5;refine⟨u,?_,zAE S hb hd h6 h9⟩;obtain⟨ti,jU,_⟩:=zFw (w:=w) jf;have yG:ti.size=s:=by simp only[szT,jU,bu,ba] at hs;exact hs
   subst yG;rw[hv,hpi.1];simp only[Instr.index,bo,asIntOf,bx,bh,run_underlying ht,zA8 jU];rw[if_pos ⟨hn,by omega⟩];simp only[bo,zA8 jU,bh];exact h8
  ·cases h3
 ·cases h3
theorem zT2{p q:PV}{off:Nat}{sh:ON}{v:Value}(h:zBT p off sh=some q)(hp:Rep w Φ (zBb w rv E) p v []) :
  ∃ b,v = .pointer (some b)/\b.spot=none/\sh≠some 0/\Rep w Φ (zBb w rv E) q (.pointer (some (zAx b off))) []:=by
 have h0:sh≠some 0:=by intro hc;subst hc;cases h
 replace h:zPh p off sh=some q:=by
  cases sh with
  |none=>exact h|some n=>cases n with
   |zero=>exact absurd rfl h0|succ n=>exact h
 cases p<;>simp only[zPh] at h<;>try (cases h;done)
 case ref q0=>
  obtain⟨_,b,c,u,rfl,y9,hΦ,yB,ya,⟨yG,jl⟩,hr⟩:=hp;refine⟨b,rfl,y9,h0,?_⟩
  cases hs:sub q0 off sh with
  |none=>rw[hs] at h;cases h
  | some x =>
   rw[hs] at h;simp only at h;have gF:∀ n,off+n<=q0.cells.length->seg c (b.off+off) n=(u.cells.toList.drop off).take n:=by
    intro n hn;rw[<- ya];apply dk;intro k;simp only[seg,ck,cf];by_cases hk:k<n
    ·rw[if_pos hk,if_pos hk,if_pos (by omega),b7]
    ·rw[if_neg hk,if_neg hk]
   cases q0<;>try (cases sh<;>cases hs;done)
   rename_i cs;obtain⟨vs,rfl,hr⟩:=hr;have hZ:=hr.length
   cases sh with
   | some n =>
    simp only[sub] at hs;split at hs
    ·rename_i yR;cases hs;simp only[ia,Bool.true_or,cond_true,ba] at h;subst h;refine⟨rfl,zAx b off,c,.agg ((vs.toList.drop off).take n).toArray,rfl,rfl,hΦ,yB,?_,⟨?_,rfl⟩,_,rfl,by simpa using zCc hr off n⟩
     ·simp only[zAx,PV.cells,Value.cells];rw[show((cs.drop off).take n).length=n by simp;omega];exact gF n yR
     ·simp only[Value.cells,PV.cells];simp at hZ ⊢;omega
    ·cases hs
   | none =>
    simp only[sub] at hs;obtain⟨u2,La,Li,Lb,hu,hL,uI,_,_⟩:=hr.split hs;have:Li=[]:=by
     have:=congrArg length hL;simp at this;exact bq (by omega)
    subst this;simp only[dR,co] at h
    cases jg:x.oneCell with
    |false=>rw[jg] at h;cases h|true=>
     rw[jg] at h;simp only[cond_true,ba] at h;subst h;have h1:=zBX (zCq (fun a v hw h=>zDo hw h) uI jg);have h2:=zBu jg;have yL:off<cs.length:=(bf.1 hs).1;refine⟨rfl,zAx b off,c,u2,rfl,rfl,hΦ,yB,?_,⟨by rw[h1.1,h2.1];rfl,by rw[h1.2,h2.2]⟩,uI⟩;rw[h1.1,h2.1];have:=gF 1 (by simp only[PV.cells];omega);simp only[zAx,bW];rw[this];simp only[Value.cells];have qa:off<vs.toList.length:=by omega
     rw[bX qa];rw[bk qa] at hu;simp only[ba] at hu;simp[<- hu]
 case addr r pre i c s =>
  cases s with
  |none=>cases h
  | some s =>
   simp only[ba] at h;subst h;obtain⟨_,hg,b,rfl,y9,hn⟩:=hp;refine⟨b,rfl,y9,h0,rfl,hg,zAx b off,rfl,rfl,fun nv np hf a' ha=>?_⟩;have key:∃ a0,zBe nv np i c=some a0/\a'=zAx a0 off:=by
    cases np<;>try (simp[zBe] at ha;done)
    ·cases nv with
     |slice x _ _=>
      cases x with
      |none=>cases ha|some x=>simp only[zBe] at ha ⊢;cases ha;exact⟨_,rfl,by simp[zAx,b7]⟩
     |pointer x=>cases x<;>cases ha
     |_=>cases ha
    ·cases nv with
     |pointer x=>
      cases x with
      |none=>cases i<;>cases ha
      |some x=>cases i<;>simp only[zBe] at ha ⊢ <;> cases ha;exact⟨_,rfl,by simp[zAx,b7]⟩
     |slice x _ _=>cases x<;>cases ha
     |_=>cases ha
   obtain⟨a0,h1,h2⟩:=key;rw[h2,hn nv np hf a0 h1]
theorem zNV(S:St w0 U Φ0 nt hv a w e Φ rv E L)(hb:zBz E){d:ON}(hd:∀ x,d=some x->x<nt){t:TypeId}{x:Operand}{i:Nat}(hx:zAZ nt x=true)(h:(zJk P d t x i).run o e=some e') :
  ∃ v,(Instr.fieldAt t (a.eval x) i).run P w = .ok v w/\Fr w0 U Φ0 nt hv (a.put d v) w e':=by
 obtain⟨p,h1,hp⟩:=zBC S hx h;obtain⟨f,h2,h3⟩:=zBS h1;obtain⟨sh,h4,h5⟩:=zBS h3;obtain⟨q,h6,h7⟩:=zBS h5;obtain⟨b,h8,h9,jZ,vg⟩:=zT2 h6 hp;obtain⟨ti,jU,_,vJ,uH⟩:=zFw (w:=w) h4;refine⟨_,?_,zAE S hb hd h7 vg⟩;have yG:ti.size≠0:=by
  cases sh with
  |none=>rw[uH rfl];decide|some n=>rw[<- vJ n rfl];intro hc;subst hc;exact jZ rfl
 simp only[zMe] at h2
 cases ht:P.underlying t with
 |none=>rw[ht] at h2;cases h2|some td=>
  rw[ht] at h2;cases td<;>simp only at h2<;>try (cases h2;done)
  rw[h8];simp only[Instr.fieldAt,bo,run_underlying ht,bh,h2,Instr.sureAddr,bx,fieldPlace,zA8 jU,yG,if_false,iF];rw[zCb h9]
theorem zCx{t:TypeId}{n:Nat}(h:szT P t=some n):∃ i,P.info? t=some i/\i.size=n:=by
 simp only[szT] at h
 cases hi:P.info? t with
 |none=>rw[hi] at h;cases h|some i=>rw[hi] at h;simp only[bu,ba] at h;exact⟨i,rfl,h⟩
theorem zVb{el:TypeId}{p q:PV}{i:Nat}{v:Value}{d:ON}{k:PV->PM}(h:(zT3 P d el p i).run o e=some e')(hp:Rep w Φ (zBb w rv E) p v []) :
  ∃ ti b n c q,P.info? el=some ti/\v = .slice (some b) n c/\i<n/\(put d q).run o e=some e'/\Rep w Φ (zBb w rv E) q (.pointer (some (b.add (i*ti.size)))) []:=by
 cases p<;>simp only[zT3] at h<;>try (cases h;done)
 case sl xs=>
  obtain⟨x,hx,h1⟩:=zBS h;obtain⟨hs,h2⟩:=zDt h1;obtain⟨ti,jU,yG⟩:=zCx hs;obtain⟨_,⟨h3,_⟩|⟨b,n,c,us,sz,rfl,y9,yR,hΦ,yB,j7,⟨kF,wD⟩,ya,hr⟩⟩:=hp
  ·subst h3;simp at hx
  ·have yL:i<xs.length:=(bf.1 hx).1;obtain⟨u,La,Li,Lb,hu,hL,uI,_,_⟩:=hr.split hx;have uJ:Li=[]:=by
    have:=congrArg length hL;simp at this;exact bq (by omega)
   subst uJ;have vh:=j7 x (bG hx);have jG:=kF u (bG hu);have hg:zCu u=x.isAgg:=by
    have h1:(us.map zCu)[i]? = some (zCu u):=by simp[hu]
    have h2:(xs.map PV.isAgg)[i]? = some x.isAgg:=by simp[hx]
    rw[wD] at h1;rw[h1] at h2;simpa using h2
   refine⟨ti,b,xs.length,n,.ref x,jU,rfl,yL,h2,rfl,zAx b (i*sz),c,u,?_,rfl,hΦ,yB,?_,⟨by omega,hg⟩,uI.mono zDq.refl (fun _ _ _ h=>h.elim) (by simp)⟩
   ·rw[zCb y9,yG,vh]
   ·rw[vh];refine zFL (by simpa using jG) fun k y hy=>?_;have hf:=zDT kF hu hy;rw[<- ya] at hf;have:=zCY hf;simp only[zAx,b7];exact this
 case bor r pre z lo n=>
  cases jf:shT P el with
  |none=>rw[jf] at h;cases h
  | some sh =>
   rw[jf] at h;simp only at h;obtain⟨⟨yL,hs⟩,h2⟩:=zDt h;obtain⟨ti,jU,yG⟩:=zCx hs;obtain⟨_,hg,⟨x,cap,rfl,yT,yX,yd⟩,hn⟩:=hp
   cases x with
   |none=>have:=yX rfl;omega
   | some b =>
    refine⟨ti,b,n,cap,_,jU,rfl,yL,h2,rfl,hg,b.add (i*ti.size),rfl,by rw[zCb (yd b rfl)];rfl,fun nv np hf a' ha=>?_⟩;have hh:np.heavy0=true:=by cases np<;>first|rfl|(simp[zBe] at ha;done)
    obtain⟨sz,xs,h3,h4,h5⟩:=hn nv np hf hh;subst h3;subst h4;cases nv<;>simp only[zBU] at h5;rename_i y l c
    cases y with
    |none=>cases ha|some y=>
     simp only[zBU,dl,ba] at h5;simp only[zBe,ba] at ha;rw[<- ha,zCb (yd b rfl),h5.1.1,yG];simp[zAx,cK,b7]
 case bsl r pre j c0 s ag n=>
  obtain⟨⟨yL,hs⟩,h2⟩:=zDt h;obtain⟨ti,jU,yG⟩:=zCx hs;obtain⟨_,hg,b,cap,rfl,yT,yd,hn⟩:=hp;refine⟨ti,b,n,cap,_,jU,rfl,yL,h2,rfl,hg,b.add (i*ti.size),rfl,by rw[zCb yd];rfl,fun nv np hf a' ha=>?_⟩;have key:∃ a0,zBe nv np j c0=some a0/\a'=zAx a0 (i*s):=by
   cases np<;>try (simp[zBe] at ha;done)
   ·cases nv with
    |slice x _ _=>
     cases x with
     |none=>cases ha|some x=>simp only[zBe] at ha ⊢;cases ha;exact⟨_,rfl,by simp[zAx,b7]⟩
    |pointer x=>cases x<;>cases ha
    |_=>cases ha
   ·cases nv with
    |pointer x=>
     cases x with
     |none=>cases j<;>cases ha
     |some x=>cases j<;>simp only[zBe] at ha ⊢ <;> cases ha;exact⟨_,rfl,by simp[zAx,b7]⟩
    |slice x _ _=>cases x<;>cases ha
    |_=>cases ha
  obtain⟨a0,h3,h4⟩:=key;rw[h4,zCb yd,hn nv np hf a0 h3,yG]
theorem zNI(S:St w0 U Φ0 nt hv a w e Φ rv E L)(hb:zBz E){d:ON}(hd:∀ x,d=some x->x<nt){t:TypeId}{x i:Operand}(hx:zAZ nt x=true)(hi:zAZ nt i=true)(h:(zFc P d t x i).run o e=some e') :
  ∃ v,(Instr.indexAt t (a.eval x) (a.eval i)).run P w = .ok v w/\Fr w0 U Φ0 nt hv (a.put d v) w e':=by
 obtain⟨p,h1,hp⟩:=zBC S hx h;obtain⟨pi,h2,hpi⟩:=zBC S hi h1;obtain⟨ik,n,rfl,hn,h3⟩:=zEi h2;rw[hpi.1];split at h3
 ·rename_i len el ht;simp only[zPR] at h3;split at h3
  ·rename_i s sh hs jf;obtain⟨yL,h4⟩:=zDt h3;obtain⟨q,h5,h6⟩:=zBS h4;obtain⟨b,h7,h8,h9,jZ⟩:=zT2 h5 hp;obtain⟨ti,jU,yG⟩:=zCx hs;refine⟨_,?_,zAE S hb hd h6 jZ⟩;rw[h7];simp only[Instr.indexAt,bo,asIntOf,bx,bh,run_underlying ht,Instr.sureAddr];rw[if_pos ⟨hn,by omega⟩];simp only[bo,zA8 jU,bh,bx];rw[zCb h8,yG]
  ·cases h3
 ·rename_i el ht;obtain⟨ti,b,m,c,q,jU,yI,yL,h4,h5⟩:=zVb (q := .bad) (k:=fun _=>.ok) h3 hp;refine⟨_,?_,zAE S hb hd h4 h5⟩;rw[yI];simp only[Instr.indexAt,bo,asIntOf,bx,bh,run_underlying ht];rw[if_pos ⟨hn,by omega⟩];simp only[bo,zA8 jU,bh,bx]
 ·cases h3
theorem zUj{p:PV}{n:Nat}{v:Value}(h:lenOf p=some n)(hp:Rep w Φ (zBb w rv E) p v []):∃ b c,v = .slice b n c:=by
 cases p<;>simp only[lenOf] at h<;>try (cases h;done)
 case nils=>cases h;exact⟨_,_,hp.1⟩
 case nn=>cases h;obtain⟨_,b,c,h1⟩:=hp;exact⟨_,_,h1⟩
 case sl xs=>
  cases h;obtain⟨_,⟨rfl,b,c,rfl,_⟩|⟨b,c,_,_,_,rfl,_⟩⟩:=hp
  ·exact⟨_,_,rfl⟩
  ·exact⟨_,_,rfl⟩
 case bor=>cases h;obtain⟨_,_,⟨b,c,rfl,_⟩,_⟩:=hp;exact⟨_,_,rfl⟩
 case bsl=>cases h;obtain⟨_,_,b,c,rfl,_⟩:=hp;exact⟨_,_,rfl⟩
theorem zX2(S:St w0 U Φ0 nt hv a w e Φ rv E L)(hb:zBz E){d:ON}(hd:∀ x,d=some x->x<nt){ty:TypeId}{ts:Array TypeId}{xs:Array Operand}(hx:∀ x∈xs.toList,zAZ nt x=true)
  (h:(zBB P d .len ts.toList xs.toList).run o e=some e') :
  ∃ v,(Builtin.len_ ts ty (xs.map a.eval)).run P w = .ok v w/\Fr w0 U Φ0 nt hv (a.put d v) w e':=by
 obtain⟨ts⟩:=ts;obtain⟨xs⟩:=xs;simp only at h hx;rcases xs with _|⟨x,_|⟨y,xs⟩⟩<;>rcases ts with _|⟨t,ts⟩<;>try (cases h;done)
 obtain⟨p,h1,hp⟩:=zBC S (hx x (by simp)) h;split at h1
 ·rename_i n el ht;refine⟨_,?_,zAE S hb hd h1 ⟨rfl,rfl⟩⟩;simp only[Builtin.len_,fu,bM,d4,List.getElem?_toArray,bJ,bo,run_underlying ht,bh];cases a.eval x<;>rfl
 ·rename_i el ht;split at h1
  ·rename_i n hn;obtain⟨b,c,yI⟩:=zUj hn hp;refine⟨_,?_,zAE S hb hd h1 ⟨rfl,rfl⟩⟩;simp only[Builtin.len_,fu,bM,d4,List.getElem?_toArray,bJ,bo,run_underlying ht,bh,yI];rfl
  ·cases h1
 ·cases h1
theorem zRJ{k:IntKind}:∀ (ps:List PV) (vs:List Value) (m:Int) (r:Option Int),zBa w Φ A ps vs [] ->
  (ps.foldl (fun m p=>match m,p with
   |some m,.int k' b=>if k=k' then some (if b>m then b else m) else none
   |_,_=>none) (some m))=r->∀ z,r=some z->(vs.foldlM Builtin.max2 (.int k m)).run P w = .ok (.int k z) w
 |[],vs,m,r,hr,h,z,hz=>by rw[hr.1];simp only[cM] at h;rw[<- h] at hz;cases hz;rfl
 | p :: ps,vs,m,r,hr,h,z,hz=>by
  obtain⟨v,vs',L1,L2,rfl,hL,h1,h2⟩:=hr;obtain⟨rfl,rfl⟩:L1=[]/\L2=[]:=by simpa using hL.symm
  have dead:∀ qs:List PV,qs.foldl (fun m p=>match m,p with
   |some m,.int k' b=>if k=k' then some (if b>m then b else m) else none
   |_,_=>none) (none:Option Int)=none:=by
   intro qs;induction qs with
   |nil=>rfl|cons q qs ih=>simp only[bZ];exact ih
  simp only[bZ] at h;cases p<;>try (simp only at h;rw[dead] at h;rw[<- h] at hz;cases hz;done)
  rename_i k' b;simp only at h;split at h
  ·rename_i hk;subst hk;rw[h1.1];simp only[List.foldlM_cons,Builtin.max2,bo,bx,bh];exact zRJ ps vs' _ r h2 h z hz
  ·rw[dead] at h;rw[<- h] at hz;cases hz
theorem zSi{k:IntKind}:∀ (ps:List PV) (vs:List Value) (m:Int) (r:Option Int),zBa w Φ A ps vs [] ->
  (ps.foldl (fun m p=>match m,p with
   |some m,.int k' b=>if k=k' then some (if b<m then b else m) else none
   |_,_=>none) (some m))=r->∀ z,r=some z->(vs.foldlM Builtin.min2 (.int k m)).run P w = .ok (.int k z) w
 |[],vs,m,r,hr,h,z,hz=>by rw[hr.1];simp only[cM] at h;rw[<- h] at hz;cases hz;rfl
 | p :: ps,vs,m,r,hr,h,z,hz=>by
  obtain⟨v,vs',L1,L2,rfl,hL,h1,h2⟩:=hr;obtain⟨rfl,rfl⟩:L1=[]/\L2=[]:=by simpa using hL.symm
  have dead:∀ qs:List PV,qs.foldl (fun m p=>match m,p with
   |some m,.int k' b=>if k=k' then some (if b<m then b else m) else none
   |_,_=>none) (none:Option Int)=none:=by
   intro qs;induction qs with
   |nil=>rfl|cons q qs ih=>simp only[bZ];exact ih
  simp only[bZ] at h;cases p<;>try (simp only at h;rw[dead] at h;rw[<- h] at hz;cases hz;done)
  rename_i k' b;simp only at h;split at h
  ·rename_i hk;subst hk;rw[h1.1];simp only[List.foldlM_cons,Builtin.min2,bo,bx,bh];exact zSi ps vs' _ r h2 h z hz
  ·rw[dead] at h;rw[<- h] at hz;cases hz
theorem zYA(S:St w0 U Φ0 nt hv a w e Φ rv E L)(hb:zBz E){d:ON}(hd:∀ x,d=some x->x<nt){ty:TypeId}{ts:Array TypeId}{xs:Array Operand}(hx:∀ x∈xs.toList,zAZ nt x=true)
  (h:(zBB P d .max ts.toList xs.toList).run o e=some e'):∃ v,(Builtin.max_ ts ty (xs.map a.eval)).run P w = .ok v w/\Fr w0 U Φ0 nt hv (a.put d v) w e':=by
 simp only[zBB] at h;obtain⟨ps,h1,hp⟩:=zIc S hx h
 cases hm:zYE ps with
 |none=>rw[hm] at h1;cases h1|some r=>
  rw[hm] at h1;simp only at h1;rcases ps with _|⟨p,ps⟩<;>simp only[zYE] at hm<;>try (cases hm;done)
  cases p<;>simp only at hm<;>try (cases hm;done)
  rename_i k x0;simp only[bm] at hm;obtain⟨z,hz,rfl⟩:=hm;obtain⟨v,vs',L1,L2,yj,hL,g1,g2⟩:=hp;obtain⟨rfl,rfl⟩:L1=[]/\L2=[]:=by simpa using hL.symm
  refine⟨.int k z,?_,zAE S hb hd h1 ⟨rfl,rfl⟩⟩;simp only[Builtin.max_,ir,yj];rw[g1.1];exact zRJ ps vs' x0 _ g2 hz z rfl
theorem zYP(S:St w0 U Φ0 nt hv a w e Φ rv E L)(hb:zBz E){d:ON}(hd:∀ x,d=some x->x<nt){ty:TypeId}{ts:Array TypeId}{xs:Array Operand}(hx:∀ x∈xs.toList,zAZ nt x=true)
  (h:(zBB P d .min ts.toList xs.toList).run o e=some e'):∃ v,(Builtin.min_ ts ty (xs.map a.eval)).run P w = .ok v w/\Fr w0 U Φ0 nt hv (a.put d v) w e':=by
 simp only[zBB] at h;obtain⟨ps,h1,hp⟩:=zIc S hx h
 cases hm:zYm ps with
 |none=>rw[hm] at h1;cases h1|some r=>
  rw[hm] at h1;simp only at h1;rcases ps with _|⟨p,ps⟩<;>simp only[zYm] at hm<;>try (cases hm;done)
  cases p<;>simp only at hm<;>try (cases hm;done)
  rename_i k x0;simp only[bm] at hm;obtain⟨z,hz,rfl⟩:=hm;obtain⟨v,vs',L1,L2,yj,hL,g1,g2⟩:=hp;obtain⟨rfl,rfl⟩:L1=[]/\L2=[]:=by simpa using hL.symm
  refine⟨.int k z,?_,zAE S hb hd h1 ⟨rfl,rfl⟩⟩;simp only[Builtin.min_,ir,yj];rw[g1.1];exact zSi ps vs' x0 _ g2 hz z rfl
end
end Go.Eng
namespace Go.Eng
open Go
section
variable {P:Program} {w0 w w':World} {U Φ0 Φ:Nat->Prop} {nt:Nat} {hv:Hid} {a:Act} {e e':Env} {rv rv':Nat->Value} {E E':Nat->PV} {L L':Nat->LN} {o:zAM} {A:Al}
def zGS(w:World)(c:Array Value)(t:TypeId):World:={w with heap:=w.heap.push (.cells c t)}
theorem zFp(t:TypeId)(c:Array Value):(newRow t c).run P w = .ok ⟨w.heap.size,0,none⟩ (zGS w c t):=by
 simp[newRow,zGS]
theorem zHs{c:Array Value}{t:TypeId}{b:Nat}(h:b<w.heap.size):(zGS w c t).heap[b]? = w.heap[b]?:=by
 simp only[zGS,d9];rw[if_neg (by omega)]
theorem zNs{c:Array Value}{t:TypeId}:zEw (zGS w c t) w.heap.size c:=⟨t,by show(w.heap.push (.cells c t))[w.heap.size]? = _;simp⟩
theorem zGC{c:Array Value}{t:TypeId}:(zGS w c t).heap.size=w.heap.size+1:=by simp[zGS]
theorem zNz{p:PV}{v:Value}(h:zKK p v=true):Rep w Φ A p v []/\p.oneCell=true/\v.oneCell'=true:=by
 cases p<;>cases v<;>simp only[zKK] at h<;>try (cases h;done)
 case int=>simp only[bb,decide_eq_true_eq] at h;obtain⟨rfl,rfl⟩:=h;exact⟨⟨rfl,rfl⟩,rfl,rfl⟩
 case bool=>simp only[beq_iff_eq] at h;subst h;exact⟨⟨rfl,rfl⟩,rfl,rfl⟩
 case nilp.pointer a=>cases a<;>simp only[zKK] at h<;>first|(cases h;done)|exact⟨⟨rfl,rfl⟩,rfl,rfl⟩
 case nilf=>exact⟨⟨rfl,rfl⟩,rfl,rfl⟩
 case nilm.map a=>cases a<;>simp only[zKK] at h<;>first|(cases h;done)|exact⟨⟨rfl,rfl⟩,rfl,rfl⟩
 case own.slice sz xs a n c=>
  cases xs with
  |cons _ _=>simp only[zKK] at h;cases h|nil=>
   cases a with
   |some _=>simp only[zKK] at h;cases h|none=>cases n<;>cases c<;>simp only[zKK] at h<;>first|(cases h;done)|exact⟨.inl ⟨rfl,rfl,rfl⟩,rfl,rfl⟩
theorem zNN:∀ {ps:List PV} {vs:List Value},zVr ps vs=true->zBa w Φ A ps vs []/\(∀ v∈vs,v.oneCell'=true)/\∀ p∈ps,p.oneCell=true
 |[],[],_=>⟨⟨rfl,rfl⟩,by simp,by simp⟩|[],_::_,h=>by cases h|_::_,[],h=>by cases h|p::ps,v::vs,h=>by
  simp only[zVr,bb] at h;obtain⟨h1,h2,h3⟩:=zNz (w:=w) (Φ:=Φ) (A:=A) h.1;obtain⟨h4,h5,h6⟩:=zNN h.2;exact⟨⟨v,vs,[],[],rfl,rfl,h1,h4⟩,fun x hx=>(bv.1 hx).elim (fun e=>e▸h3) (h5 x),fun x hx=>(bv.1 hx).elim (fun e=>e▸h2) (h6 x)⟩
theorem zCt{p:PV}{v:Value}(h:zNx p v=true):Rep w Φ A p v []/\v.cells.size=p.cells.length/\zCu v=p.isAgg/\(∀ u∈v.cells.toList,u.oneCell'=true)/\∀ q∈p.cells,q.oneCell=true:=by
 by_cases hp:∃ cs,p = .agg cs
 ·obtain⟨cs,rfl⟩:=hp;cases v<;>simp only[zNx] at h<;>try (cases h;done)
  rename_i vs;obtain⟨h1,h2,h3⟩:=zNN (w:=w) (Φ:=Φ) (A:=A) h;have:=h1.length;exact⟨⟨vs,rfl,h1⟩,by simpa[Value.cells,PV.cells] using this,rfl,h2,h3⟩
 ·have h:zKK p v=true:=by
   rw[<- h];cases p<;>first|rfl|exact absurd ⟨_,rfl⟩ hp
  obtain⟨h1,h2,h3⟩:=zNz (w:=w) (Φ:=Φ) (A:=A) h;have h4:=zBX h3;have h5:=zBu h2;exact⟨h1,by rw[h4.1,h5.1];rfl,by rw[h4.2,h5.2],by rw[h4.1];simpa using h3,by rw[h5.1];simpa using h2⟩
theorem zDW{t:TypeId}{z:PV}(h:zCS P t=some z):∃ i v,P.info? t=some i/\i.zero=some v/\(∀ w:World,(zeroValue t).run P w = .ok v w)/\zNx z v=true:=by
 simp only[zCS] at h;split at h
 ·rename_i cs sh v _ _ hv
  cases hi:P.info? t with
  |none=>rw[hi] at hv;cases hv
  | some i =>
   rw[hi] at hv;simp only[bd] at hv
   cases hz:zNx (zOT sh cs) v with
   |false=>rw[hz] at h;cases h|true=>
    rw[hz] at h;simp only[cond_true,ba] at h;subst h;refine⟨i,v,rfl,hv,fun w=>?_,hz⟩;simp[zeroValue,typeInfo,hi,hv]
 ·cases h
theorem St.boxed(S:St w0 U Φ0 nt hv a w e Φ rv E L){g0 g:Nat}(hg0:zAa<=g0)(hg:zAa<=g)(hI:g≠g0)(ul:E g = .bad){v:Value}(yI:rv g0=v)(t:TypeId)(yG:v.cells.size=(E g0).cells.length/\zCu v=(E g0).isAgg) :
  ∃ rv1 E1 L1,St w0 U Φ0 nt hv a (zGS w v.cells t) e Φ rv1 E1 L1/\E1 g = .box (E g0)/\rv1 g = .pointer (some ⟨w.heap.size,0,none⟩)/\E1 g0 = .bad/\∀ s,zAa<=s->s≠g->s≠g0->E1 s=E s:=by
 have hX:=S.conf.rep g0;rw[yI] at hX;have hold:∀ b∈L g0,(zGS w v.cells t).heap[b]? = w.heap[b]?:=fun b hb=>zHs (S.conf.own g0 b hb).1;have hΦ:zDq w (zGS w v.cells t) Φ Φ:=fun b hb=>⟨hb,zHs (S.conf.frz b hb).1⟩
 have hc:=S.conf.make (w':=zGS w v.cells t) (fun s=>s==g0) (fun s hs=>by have:=eq_of_beq hs;omega) hg (p := .box (E g0)) (v := .pointer (some ⟨w.heap.size,0,none⟩)) (Lp:=w.heap.size::L g0)
  (fun A hA=>⟨_,v.cells,v,L g0,rfl,rfl,rfl,zNs,by show(v.cells.toList.drop 0).take _=_;rw[<- yG.1];exact bz (by simp),yG,hX.mono hΦ hA hold⟩)
  (cv.2 ⟨fun hm=>absurd (S.conf.own g0 _ hm).1 (fK _),S.conf.nodup g0⟩)
  (fun b hb=>by
   rcases bv.1 hb with rfl|hb
   ·exact .inr ⟨bi _,by rw[zGC];omega⟩
   ·exact .inl ⟨g0,hb,by simp⟩)
  (by rw[zGC];omega) (fun b hb _=>zHs hb) ⟨rfl,rfl,rfl⟩
 refine⟨_,_,_,S.turn hc (fun s hs=>?_) (fun s hs=>zAf (by omega)) (fun d ps hd hp=>?_),zAi,zAi,?_,fun s h1 h2 h3=>?_⟩
 ·rw[zAf (by omega)];have:(s==g0)=false:=by simp;omega
  simp only[this,bp,if_false];exact S.env s hs
 ·simp only[zAa] at hg hg0;rw[zAf (by omega)] at hp;have:(d==g0)=false:=by simp;omega
  simp only[this,bp,if_false] at hp;exact⟨ps,hp,rfl⟩
 ·rw[zAf (dA hI)];simp
 ·rw[zAf h2];have:(s==g0)=false:=by simp[h3]
  simp[this]
theorem zUw(S:St w0 U Φ0 nt hv a w e Φ rv E L)(hb:zBz E){d:ON}(hd:∀ x,d=some x->x<nt){t:TypeId}(h:(zSq P d t).run o e=some e') :
  ∃ v w',(Instr.alloc t true (.tuple #[])).run P w = .ok v w'/\Fr w0 U Φ0 nt hv (a.put d v) w' e':=by
 obtain⟨z,hz,h1⟩:=zBS h;obtain⟨i,v,hi,hiz,yA,kb⟩:=zDW hz;have kd:=zCt (w:=w) (Φ:=Φ) (A:=zBb w rv E) kb;obtain⟨hr,h2,h3⟩:Rep w Φ (zBb w rv E) (zRY P t z) v []/\v.cells.size=(zRY P t z).cells.length/\zCu v=(zRY P t z).isAgg:=by
  cases z with
  |nils k=>
   simp only[zRY];split
   ·exact⟨.inl ⟨rfl,rfl,kd.1.1⟩,kd.2.1,kd.2.2.1⟩
   ·exact⟨kd.1,kd.2.1,kd.2.2.1⟩
  |_=>exact⟨kd.1,kd.2.1,kd.2.2.1⟩
 have S1:=S.hold (bi zAa) hr;obtain⟨rv1,E1,L1,S2,h4,h5,h6,h7⟩:=S1.boxed (g0:=zAa) (g:=zAa+1) (bi _) (by omega) (by omega) (by rw[zAf (by omega)];exact hb _ (by omega)) zAi t (by rw[zAi];exact⟨h2,h3⟩);have:=zF0 S2 hd (g:=zAa+1) (by omega) (by rw[h4,zAi];exact h1) (fun s hs hI=>by
   by_cases h8:s=zAa
   ·subst h8;exact h6
   ·rw[h7 s hs hI h8,zAf h8];exact hb s hs)
 rw[h5] at this;refine⟨_,_,?_,this⟩;simp only[Instr.alloc,bo,yA,bh,newVar,zFp,bx]
theorem zYV(S:St w0 U Φ0 nt hv a w e Φ rv E L)(hb:zBz E){d:ON}(hd:∀ x,d=some x->x<nt){t:TypeId}{x:Operand}(hx:zAZ nt x=true)(h:(zVK P d t x).run o e=some e') :
  ∃ v w',(Instr.box t (a.eval x)).run P w = .ok v w'/\Fr w0 U Φ0 nt hv (a.put d v) w' e':=by
 obtain⟨e1,rv1,E1,L1,h1,S1,h2,h3⟩:=zGd S hx (bi zAa) h;split at h1
 ·rename_i sh n _ _;obtain⟨h4,h5⟩:=zDt h1;simp only[bb,decide_eq_true_eq] at h4;have hX:=S1.conf.rep zAa;rw[h2] at hX;have yG:(a.eval x).cells.size=(E1 zAa).cells.length/\zCu (a.eval x)=(E1 zAa).isAgg:=by
   have hw:=h4.2;simp only[PV.whole,bV] at hw;rcases hw with hw|hw
   ·cases hE:E1 zAa<;>rw[hE] at hw<;>simp[PV.isAgg] at hw;rw[hE] at hX;obtain⟨vs,yI,hr⟩:=hX;have:=hr.length;rw[yI];exact⟨by simpa[Value.cells,PV.cells] using this,rfl⟩
   ·have g1:=zBX (zCq (fun a v hw h=>zDo hw h) hX hw);have g2:=zBu hw;exact⟨by rw[g1.1,g2.1];rfl,by rw[g1.2,g2.2]⟩
  obtain⟨rv2,E2,L2,S2,h6,h7,h8,h9⟩:=S1.boxed (g0:=zAa) (g:=zAa+1) (bi _) (by omega) (by omega) (by rw[(h3 (zAa+1) (by omega) (by omega)).1];exact hb _ (by omega)) h2 t yG;have:=zF0 S2 hd (g:=zAa+1) (by omega) (by rw[h6];exact h5) (fun s hs hI=>by
    by_cases jZ:s=zAa
    ·subst jZ;exact h8
    ·rw[h9 s hs hI jZ,(h3 s hs jZ).1];exact hb s hs)
  rw[h7] at this;refine⟨_,_,?_,this⟩;simp only[Instr.box,bo,newVar,zFp,bh,bx]
 ·cases h1
theorem zLh{t:TypeId}{sh:ON}(hs:shT P t=some sh){b:Addr}{u:Value}(hc:∀ j y,u.cells.toList[j]? = some y->w.cell? (b.add j)=some y)(hu:zCu u=sh.isSome)(hn:u.cells.size=sh.getD 1) :
  (loadVar t b).run P w = .ok u w:=by
 obtain⟨ti,jU,jC,h1,h2⟩:=zFw (w:=w) hs
 cases sh with
 |some n=>
  have:=h1 n rfl;subst this;cases u<;>simp[zCu] at hu;rename_i vs;simp only[de,Value.cells] at hn;have hl:=run_loadCells_list (P:=P) w b vs.toList hc;have gq:(loadCells b ti.size).run P w = .ok vs w:=by rw[<- hn];simpa using hl
  simp only[loadVar,bo,jC,bh,ia,if_true,zA8 jU,gq,bx,iF]
 |none=>
  have kF:u.cells=#[u]:=by cases u<;>first|rfl|simp[zCu] at hu
  have:=hc 0 u (by rw[kF];rfl);have h0:b.add 0=b:=by simp[Addr.add]
  rw[h0] at this;simp only[loadVar,bo,jC,bh,dR,bp,if_false,iF,run_load,this]
theorem zIp{b:Addr}{c:Array Value}{l:List Value}(y9:b.spot=none)(hr:zKe w b.block c)(h:seg c b.off l.length=l):∀ j y,l[j]? = some y->w.cell? (b.add j)=some y:=by
 intro j y hy;rw[zCb y9];simp only[zAx];rw[zCy hr];rw[<- h] at hy;exact zCY hy
theorem zUg{q:List PV}{u:Value}{us:List Value}(h:zBa w Φ A q us [])(hl:us=[u]):Rep w Φ A (q.headD .bad) u []:=by
 subst hl
 cases q with
 |nil=>exact absurd h.1 (by simp)|cons p ps=>
  obtain⟨v,vs',L1,L2,h1,h2,h3,_⟩:=h;obtain⟨rfl,rfl⟩:L1=[]/\L2=[]:=by simpa using h2.symm
  simp only[ff] at h1;rw[h1.1];exact h3
theorem zLF(S:St w0 U Φ0 nt hv a w e Φ rv E L){t:TypeId}{sh:ON}(hs:shT P t=some sh){r:Nat}{pre:zA4}{i c:Nat}{s':ON}{v:Value}(hp:Rep w Φ (zBb w rv E) (.addr r pre i c s') v [])
  {k:PV->PM} (h:(zNF r pre i c sh k).run o e=some e'):∃ b u q,v = .pointer (some b)/\(loadVar t b).run P w = .ok u w/\(k q).run o e=some e'/\Rep w Φ (zBb w rv E) q u []:=by
 obtain⟨_,hg,b,rfl,y9,hn⟩:=hp;refine⟨b,?_⟩
 cases sh with
 | some n =>
  simp only[zNF,PM.run] at h;split at h
  ·rename_i ag qs hq;rw[<- S.env r hg] at hq;obtain⟨nv,np,ad,us,h1,h2,h3,h4,h5,h6⟩:=S.conf.cells hg hq;have:=hn nv np h1 ad h2;subst this
   cases ag with
   |false=>cases h|true=>
    refine⟨.agg us.toArray,.agg qs,rfl,zLh hs (fun j y hy=>h5 j y (by simpa[Value.cells] using hy)) rfl (by simpa[Value.cells] using h4),h,_,rfl,by simpa using h6⟩
  ·cases h
 | none =>
  simp only[zNF,PM.run] at h;split at h
  ·rename_i ag qs hq;rw[<- S.env r hg] at hq;obtain⟨nv,np,ad,us,h1,h2,h3,h4,h5,h6⟩:=S.conf.cells hg hq;have:=hn nv np h1 ad h2;subst this
   match us,h4 with
   |[u],_=>
    refine⟨u,qs.headD .bad,rfl,?_,h,zUg h6 rfl⟩;have:=h5 0 u rfl;rw[show b.add 0=b by simp[Addr.add]] at this;obtain⟨ti,jU,jC,_⟩:=zFw (w:=w) hs;simp only[loadVar,bo,jC,bh,dR,bp,if_false,iF,run_load,this]
  ·cases h
theorem zO4(S:St w0 U Φ0 nt hv a w e Φ rv E L)(hb:zBz E){d:ON}(hd:∀ x,d=some x->x<nt){t:TypeId}{sh:ON}(hs:shT P t=some sh){p:PV}{v:Value}(hp:Rep w Φ (zBb w rv E) p v [])(h:(zQL d sh p).run o e=some e') :
  ∃ u,(Instr.loadAt t v).run P w = .ok u w/\Fr w0 U Φ0 nt hv (a.put d u) w e':=by
 cases p<;>simp only[zQL] at h<;>try (cases h;done)
 case ref q=>
  obtain⟨h1,h2⟩:=zDt h;simp only[bb,decide_eq_true_eq] at h1;obtain⟨_,b,c,u,rfl,y9,hΦ,yB,ya,⟨yG,jl⟩,hr⟩:=hp;refine⟨u,?_,zAE S hb hd h2 hr⟩;simp only[Instr.loadAt,Instr.sureAddr,bo,bx,bh];refine zLh hs (zIp y9 yB ?_) ?_ ?_
  ·rw[show u.cells.toList.length=q.cells.length by simpa using yG];exact ya
  ·rw[jl,h1.1]
  ·rw[yG,h1.2]
 case addr r pre i c s'=>
  obtain⟨b,u,q,rfl,h1,h2,h3⟩:=zLF S hs hp h;refine⟨u,?_,zAE S hb hd h2 h3⟩;simp only[Instr.loadAt,Instr.sureAddr,bo,bx,bh];exact h1
end
end Go.Eng
