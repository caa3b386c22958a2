/- A row that the call owns, of which nothing that it can write is frozen. -/
import Derived.Laws.AppendOwn
import Derived.Laws.AppendOwnNone
import Derived.Laws.OwnMore
import Derived.Laws.MakeOwn
import Derived.Laws.BytesArg
import Derived.Laws.Rows
set_option linter.unusedVariables false
set_option linter.defProp false
namespace Go.Proofs.YthnfghmjipikhaaGreatDoor.Ev
open IntKind (i64 u8 u64 u32)
def B7f:=@Bool.and_eq_false_iff
def B5H:=@decide_eq_false_iff_not
def B6:=@Array.getElem?_eq_some_iff
def A1v:=@cell_of_row
def L0:=@List.getElem?_take
def F8:=@List.append_nil
def J7:=@List.length_nil
def K1:=@Nat.add_zero
def K8:=@List.take_append_drop
def A17:=@Array.toArray_toList
def C2R:=@setCell_eq_setRow
def V2:=@setRow_heap
def D0:=@Sem.run_bind
def H8:=@Result.andThen_ok
def B4a:=@setRow_setRow
def A4q:=@Array.toList_setIfInBounds
def P1:=@Nat.add_assoc
def B9l:=@run_firstCells_some
def H4:=@run_underlying
def U5:=@Addr.add_lit
def G6:=@List.eq_nil_of_length_eq_zero
def A4:=@List.length_append
def N4:=@Nat.add_mul
def E8:=@Nat.mul_le_mul_right
def H2:=@List.size_toArray
def B4:=@List.length_take
def D5:=@List.length_drop
def E1:=@Array.length_toList
def A1o:=@setRow_other
def A18:=@List.take_left
def B7U:=@run_append_grow
def A8O:=@growslice_fits
def A2j:=@grownCap_ge
def T7:=@grownCap_le_maxLen
def A19:=@heap_alloc_new
def V3:=@Array.size_append
def A0V:=@size_zeroCells
def A37:=@Array.toList_append
def B3:=@List.append_assoc
def A0f:=@Nat.one_pos
def B1:=@List.mem_singleton
def C8:=@List.mem_append
def B2q:=@Nat.lt_of_lt_of_le
def L3:=@World.cell?_of_block
def M3:=@World.block_lt_of_cell?
def J0:=@Array.getElem?_eq_getElem
def C0:=@Nat.le_refl
def H9:=@Nat.zero_le
def C7:=@List.getElem?_eq_some_iff
def H5:=@List.getElem?_take_of_lt
def G2:=@List.getElem?_drop
def B5I:=@Option.bind_some
def G0:=@List.length_cons
def A9:=@List.mem_cons_self
def B8:=@List.mem_cons_of_mem
def A5u:=@Nat.le_trans
def A8P:=@List.nodup_nil
def C4:=@List.all_eq_true
def A0W:=@Bool.not_eq_true'
def A0a:=@List.any_eq_false
def G1:=@List.mem_flatMap
def K4:=@Array.getD_eq_getD_getElem?
def B1K:=@Array.getElem?_setIfInBounds
def A6:=@if_pos
def A5:=@if_neg
def H3:=@List.map_cons
def D8:=@List.cons_append
def D6:=@List.mem_map
def A0b:=@List.drop_eq_nil_of_le
def C3:=@List.getElem?_eq_getElem
def K2:=@List.drop_eq_getElem_cons
def Q5:=@decide_eq_true
def E0:=@Bool.not_true
def J2:=@Bool.false_eq_true
def O7:=@if_false
def J9:=@Bool.true_and
def W9:=@decide_eq_false
def O9:=@List.drop_drop
def B7a:=@Bool.toNat_true
def B5J:=@Bool.toNat_false
def F2:=@List.mem_append_left
def D7:=@List.mem_append_right
def O1:=@Nat.blt_eq
def E9:=@List.getElem?_append_left
def F4:=@List.getElem?_append_right
def A3o:=@Nat.zero_mul
def E5:=@Nat.zero_add
def M7:=@if_true
def C9:=@List.getD_eq_getElem?_getD
def A3:=@Nat.eq_of_beq_eq_true
def B9:=@List.mem_cons
def J1:=@List.not_mem_nil
def A1A:=@or_false
def B2:=@cond_true
def A7:=@cond_false
def B5:=@of_decide_eq_true
def B2r:=@of_decide_eq_false
def A3S:=@Nat.mul_one
def C18:=@run_loadCells_list
def A0n:=@List.getElem?_toArray
def L4:=@List.mem_of_getElem?
def A3p:=@Sem.run_pure
def A0v:=@Option.getD_some
def B7:=@Bool.and_eq_true
def L7:=@Option.map_some
def A1a:=@Int.toNat_of_nonneg
def A13:=@Ne.symm
def G5:=@List.nil_append
def M0:=@congrArg
def C5K:=@HEq.rfl
def N5:=@List.take_take
def A00:=@Nat.min_eq_left
def A2C:=@List.drop_take
def I8:=@Nat.succ_mul
def D4:=@Nat.le_of_ble_eq_true
def B23:=@List.map_nil
def A3L:=@List.ext_getElem
def A01:=@Nat.mul_comm
def B7b:=@Nat.mul_add_mod
def C2S:=@getElem!_pos
def B8u:=@Int.le_refl
def R9:=@List.length_replicate
def A8Q:=@World.ownsRow_lit
def B7H:=@List.getElem_replicate
def A38:=@List.replicate_succ
def B3q:=@List.flatten_cons
def A0c:=@List.drop_zero
def F5:=@List.take_append_of_le_length
def F6:=@List.take_of_length_le
def A5v:=@List.drop_append
def U6:=@List.drop_of_length_le
def A0A:=@Nat.add_sub_cancel_left
def C2T:=@Nat.add_comm
def A2D:=@List.drop_left
def B7I:=@List.getElem_cons_succ
def A2k:=@Nat.beq_refl
def A6t:=@List.map_append
def B3r:=@List.flatMap_cons
def C4P:=@Nat.mul_pos
def B5K:=@Nat.le_mul_of_pos_right
def T9:=@List.length_map
def A4O:=@Nat.div_lt_iff_lt_mul
def A3q:=@Nat.mod_lt
def A43:=@Nat.div_add_mod
def L8:=@List.getElem?_map
def L5:=@List.getElem_append_left
def M4:=@List.drop_append_of_le_length
def M9:=@List.getElem_append_right
def B7J:=@Nat.le_of_lt
def B5L:=@List.take_append
def A2l:=@List.ext_getElem?
def A4r:=@List.mem_of_mem_take
def A1B:=@List.mem_of_mem_drop
def A2R:=@List.length_set
def A2H:=@List.getElem_set_self
def B1N:=@List.getElem_set_ne
def J4:=@List.suffix_refl
def B5M:=@List.suffix_cons
def A2E:=@List.suffix_append
def B5N:=@List.range'_succ
def K9:=@Array.getElem?_toList
def B0o:=@List.range_eq_range'
def A4I:=@List.any_cons
def A4s:=@Bool.or_eq_false_iff
def L9:=@Bool.or_eq_true
def A5w:=@List.any_eq_true
def H7:=@List.length_singleton
def B0p:=@Array.mem_toList_iff
def A3r:=@List.mem_filterMap
def B1O:=@List.filterMap_cons
def A3M:=@List.append_cancel_left
def B7g:=@Nat.le_div_iff_mul_le
def A23:=@Array.toList_inj
def B4b:=@wp_seq
def A9l:=@Nat.lt_succ_self
def A44:=@List.any_append
def B8w:=@List.getElem?_set_ne
def G9:=@Option.some.injEq
def A8c:=@Array.getElem?_modify
def B5O:=@List.getElem?_cons_zero
def B5P:=@List.getElem_map
def B0q:=@Nat.sub_mul
def B0r:=@List.mem_iff_getElem
def A8d:=@List.mem_iff_getElem?
def A8e:=@List.singleton_append
def A8R:=@List.getElem_take
def A8S:=@List.getElem_drop
def A9m:=@block_lt_of_cell
def B2s:=@Array.getElem?_append_left
def B7c:=@Option.some.inj
def B0T:=@Prod.mk.injEq
def B5Q:=@List.isEmpty_iff
def E6:=@Int.toNat_natCast
def B7d:=@Bool.eq_iff_iff
def N6:=@decide_eq_true_eq
def A6T:=@Nat.lt_irrefl
def A8T:=@List.all_eq_false
def A1C:=@List.mem_range
def C2U:=@Nat.or_lt_two_pow
def G3:=@List.getElem_mem
def A8f:=@List.getElem?_eq_none
def B3s:=@Nat.pow_add
def A2m:=@Nat.pow_le_pow_right
def A2F:=@Int.tmod_eq_emod_of_nonneg
def C1A:=@Int.emod_lt_of_pos
def A4a:=@Nat.two_pow_add_eq_or_of_lt
def A2G:=@Int.fdiv_eq_ediv_of_nonneg
def A4t:=@Bool.false_and
def A0B:=@decide_true
def M1:=@Bool.not_false
def A6u:=@List.length_zip
def N7:=@List.take_succ_eq_append_getElem
def A1H:=@List.length_eq_zero_iff
def B7L:=@Nat.lt_or_ge
def A8g:=@ByteArray.size_append
def A7E:=@Nat.eq_zero_or_pos
def B5R:=@Nat.testBit_div_two_pow
def A0g:=@Nat.two_pow_pos
def A8U:=@Nat.testBit_eq_decide_div_mod_eq
def B24:=@Nat.pow_succ
def A4u:=@Nat.div_lt_of_lt_mul
def C1B:=@Nat.lt_of_le_of_lt
def A3N:=@Nat.and_two_pow_sub_one_eq_mod
def B35:=@List.mem_or_eq_of_mem_set
def A9n:=@List.take_length
def C1C:=@Bool.true_eq_false
def B7M:=@Int.zero_add
def B36:=@List.mem_take_iff_getElem
def B5T:=@IntKind.wrap_i64
def B91:=@Nat.min_def
def B7e:=@List.take_left'
def Thawed(n:Nat)(fz:Nat×Nat):Prop:=fz=(0,0)\/fz=(n,n+1)
theorem Thawed.not{w:World}{g:Nat}{cur:Array Value}{t:TypeId}{fz:Nat×Nat}(hg:w.heap[g]? = some (.cells cur t fz))(hf:Thawed cur.size fz){i:Nat}(hi:i<cur.size):w.frozen? ⟨g,i,none⟩=false:=by
 rcases hf with rfl | rfl
 ·simp only [World.frozen?,hg,B7f,B5H];right;exact Nat.not_lt_zero _
 ·simp only [World.frozen?,hg,B7f,B5H];left;omega
def TS(size n:Nat)(fz:Nat×Nat):Prop:=Thawed n fz/\(fz=(0,0)\/size=1)
def owns(w:World)(base:Nat)(e:TypeId)(size:Nat)(v:Value)(n:Nat)(xs:List Value):Prop:=
 xs.length=n*size/\
 ((v=.slice none 0 0/\n=0)\/
  ∃ g cap cur fz,v=.slice (some ⟨g,0,none⟩) n cap/\base<=g/\w.heap[g]? = some (.cells cur e fz)/\TS size cur.size fz/\n<=cap/\cap<=maxLen/\cur.size=cap*size/\cur.toList.take (n*size)=xs)
section
variable {w:World} {base:Nat} {e:TypeId} {size:Nat} {v:Value} {n:Nat} {xs:List Value}
theorem B38(h:w.ownsRow base e size v n xs):owns w base e size v n xs:=by
 refine ⟨h.1,?_⟩;rcases h.2 with hn | ⟨g,cap,cur,hv,hb,hg,rest⟩
 ·exact .inl hn
 ·exact .inr ⟨g,cap,cur,(0,0),hv,hb,hg,⟨.inl rfl,.inl rfl⟩,rest⟩
theorem A6B(w:World)(base:Nat)(e:TypeId)(size:Nat):owns w base e size (.slice none 0 0) 0 []:=⟨by simp,.inl ⟨rfl,rfl⟩⟩
theorem E12(h:owns w base e size v n xs):∀ k,v.ownBlock=some k->base<=k/\k<w.heap.size:=by
 intro k hk;rcases h.2 with ⟨rfl,_⟩ | ⟨g,cap,cur,fz,rfl,hb,hg,_⟩
 ·simp [Value.ownBlock] at hk
 ·simp [Value.ownBlock] at hk;subst hk;exact ⟨hb,(B6.1 hg).1⟩
theorem A1I(h:owns w base e size v n xs){g:Nat}(hg:v.ownBlock=some g):∀ j u,xs[j]? = some u->w.cell? ((⟨g,0,none⟩:Addr).add j)=some u:=by
 intro j u hu;rcases h.2 with ⟨rfl,_⟩ | ⟨g',cap,cur,fz,rfl,_,hgg,_,_,_,_,htake⟩
 ·simp [Value.ownBlock] at hg
 ·simp [Value.ownBlock] at hg;subst hg;have hadd:(⟨g',0,none⟩:Addr).add j=⟨g',j,none⟩:=by unfold Addr.add;split<;>simp_all
  rw [hadd,A1v w g' j cur e fz hgg];rw [<- htake,L0] at hu;split at hu
  ·simpa using hu
  ·cases hu
end
theorem A3T(P:Program)(g o:Nat)(t:TypeId)(fz:Nat×Nat):∀ (vs:List Value) (i:Nat) (cur:Array Value) (w:World),w.heap[g]? = some (.cells cur t fz)->Thawed cur.size fz->o+i+vs.length<=cur.size->(∀ v∈vs,v.oneCell' = true)->
  (storeCells ⟨g,o,none⟩ vs i).run P w=.ok () (w.setRow g (cur.toList.take (o+i)++vs++cur.toList.drop (o+i+vs.length)).toArray)
 | [],i,cur,w,hg,_,_,_=>by
  simp only [storeCells,F8,J7,K1,K8,A17];rw [setRow_self w g cur t fz hg];rfl
 | v::rest,i,cur,w,hg,hfz,hl,h1=>by
  have hi:o+i<cur.size:=by simp at hl;omega
  have hadd:(⟨g,o,none⟩:Addr).add i=⟨g,o+i,none⟩:=by unfold Addr.add;split<;>simp_all
  have hcell:w.cell? ⟨g,o+i,none⟩=some cur[o+i]:=by simp [World.cell?,hg,hi]
  have hfro:w.frozen? ⟨g,o+i,none⟩=false:=Thawed.not hg hfz hi;have hst:(store ((⟨g,o,none⟩:Addr).add i) v).run P w=.ok () (w.setRow g (cur.setIfInBounds (o+i) v)):=by
   rw [hadd,run_store P w _ v _ (h1 v (by simp)),hcell];simp [hfro,C2R w g (o+i) cur t fz v hg]
  have ih:=A3T P g o t fz rest (i+1) (cur.setIfInBounds (o+i) v) (w.setRow g (cur.setIfInBounds (o+i) v)) (V2 w g cur _ t _ hg) (by simpa using hfz) (by simp at hl ⊢;omega) (fun x hx=>h1 x (by simp [hx]));simp only [storeCells,D0,hst,H8,ih,B4a]
  congr 3
  have e:=list_seg_step cur.toList (o+i) v rest (by simp at hl ⊢;omega);simpa [A4q,P1] using e
section
variable {P:Program} (w:World)
theorem A4v(t ty e:TypeId)(i:TypeInfo)(ht:P.underlying t=some (.slice e))(hi:P.info? e=some i)
  (g sLen sCap:Nat) (cur:Array Value) (fz:Nat×Nat) (hg:w.heap[g]? = some (.cells cur e fz)) (hfz:Thawed cur.size fz)
  (a:Addr) (m c:Nat) (news:List Value) (hl:news.length=m*i.size) (hnews:∀ j u,news[j]? = some u->w.cell? (a.add j)=some u) (h1:∀ u∈news,u.oneCell' = true)
  (hroom:sLen+m<=sCap) (hfit:sLen*i.size+news.length<=cur.size) :
  (Builtin.append_ #[t,t] ty #[.slice (some ⟨g,0,none⟩) sLen sCap,.slice (some a) m c]).run P w =
   .ok (.slice (some ⟨g,0,none⟩) (sLen+m) sCap) (w.setRow g (cur.toList.take (sLen*i.size)++news++cur.toList.drop (sLen*i.size+news.length)).toArray):=by
 have hf:=B9l (P:=P) w i.size m a m c news hl hnews;have hst:=A3T P g (sLen*i.size) e fz news 0 cur w hg hfz (by simpa using hfit) h1;simp only [K1] at hst;simp [Builtin.append_,H4 ht,sizeOf,typeInfo,hi,Builtin.lenOf,hroom,hf,U5,hst]
theorem C4Q(base:Nat)(t ty e:TypeId)(i:TypeInfo)(z:Value)(size bytes:Nat)(ht:P.underlying t=some (.slice e))(hi:P.info? e=some i)(hz:i.zero=some z)
  (hsize:i.size=size) (hby:i.bytes=bytes) (hzs:z.cells.size=size) (hsz:0<size)
  (v:Value) (n:Nat) (xs:List Value) (hown:owns w base e size v n xs)
  (a:Addr) (m c:Nat) (news:List Value) (hl:news.length=m*size) (hnews:∀ j u,news[j]? = some u->w.cell? (a.add j)=some u) (h1:∀ u∈news,u.oneCell' = true)
  (h63:n+m<=maxLen) (hbytes:(n+m)*bytes<=140737488355328) (hbase:base<=w.heap.size) :
  ∃ v' w',(Builtin.append_ #[t,t] ty #[v,.slice (some a) m c]).run P w=.ok v' w'/\owns w' base e size v' (n+m) (xs++news)/\w.grownBy w' v.ownBlock/\
   (v' = .slice none 0 0↔v=.slice none 0 0/\m=0):=by
 rcases hown.2 with ⟨rfl,rfl⟩ | ⟨g,cap,cur,fz,rfl,hbg,hg,hfz,hnc,hcm,hcs,htake⟩
 ·have hx:xs = []:=G6 (by simpa using hown.1);subst hx;obtain ⟨v',w',h1,h2,h3,h4⟩:=run_append_own (P:=P) w base t ty e i z size bytes ht hi hz hsize hby hzs hsz _ 0 [] (World.ownsRow_nil w base e size) a m c news hl hnews h1 h63 hbytes hbase;exact ⟨v',w',h1,B38 h2,h3,h4⟩
 ·subst hsize;subst hby;have hlen:(xs++news).length=(n+m)*i.size:=by rw [A4,hown.1,hl,N4]
  have hsmall:n+m<=9223372036854775807:=by simp only [maxLen] at h63;omega
  by_cases hroom:n+m<=cap
  ·have hfit:n*i.size+news.length<=cur.size:=by rw [hl,hcs,<- N4];exact E8 _ hroom
   have hr:=A4v (P:=P) w t ty e i ht hi g n cap cur fz hg hfz.1 a m c news hl hnews h1 hroom hfit;have hsz2:(cur.toList.take (n*i.size)++news++cur.toList.drop (n*i.size+news.length)).toArray.size=cur.size:=by
    simp only [H2,A4,B4,D5,E1];omega
   refine ⟨_,_,hr,⟨hlen,.inr ⟨g,cap,_,fz,rfl,hbg,V2 w g cur _ e _ hg,by rw [hsz2];exact hfz,hroom,hcm,by rw [hsz2];exact hcs,?_⟩⟩,⟨rfl,rfl,rfl,by simp,fun k _ hk=>A1o w g k _ (fun e=>hk (by simp [Value.ownBlock,e]))⟩,by simp⟩;rw [htake,<- hlen];exact A18
  ·have holds:∀ j u,xs[j]? = some u->w.cell? ((⟨g,0,none⟩:Addr).add j)=some u:=A1I hown (g:=g) rfl;have hr:=B7U (P:=P) w t ty e i z ht hi hz ⟨g,0,none⟩ n cap xs hown.1 holds a m c news hl hnews (by omega) (by omega) (A8O (by omega) hbytes);have hge:=A2j w (n+m) cap e;have hcm':grownCap w (n+m) cap e<=maxLen:=T7 w (n+m) cap e h63;refine ⟨_,_,hr,B38 ⟨hlen,.inr ⟨w.heap.size,_,_,rfl,hbase,A19 w.drew _,hge,hcm',?_,?_⟩⟩,⟨rfl,rfl,rfl,by simp,fun k hk _=>heap_alloc_old w.drew _ k hk⟩,by simp⟩
   ·simp only [V3,H2,A0V,hzs,hown.1,hl,<- N4]
    congr 1
    omega
   ·simp only [A37,B3];rw [<- B3,<- hlen];exact A18
end
end Go.Proofs.YthnfghmjipikhaaGreatDoor.Ev
