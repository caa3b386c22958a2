/- A row that the call owns, of which nothing that it can write is frozen. -/
import Derived.Laws.AppendOwn
import Derived.Laws.AppendOwnNone
import Derived.Laws.OwnMore
import Derived.Laws.MakeOwn
import Derived.Laws.BytesArg
import Derived.Laws.Rows
set_option linter.unusedVariables false
set_option linter.defProp false
namespace Go.Proofs.YthnfghmjipikhaaGreatDoor.Ev
open IntKind (i64 u8 u64 u32)
def C20:=@Bool.and_eq_false_iff
def A1j:=@decide_eq_false_iff_not
def B7:=@Array.getElem?_eq_some_iff
def A1b:=@cell_of_row
def K3:=@List.getElem?_take
def G5:=@List.append_nil
def M3:=@List.length_nil
def L0:=@Nat.add_zero
def N6:=@List.take_append_drop
def A61:=@Array.toArray_toList
def B73:=@setCell_eq_setRow
def A0Q:=@setRow_heap
def E1:=@Sem.run_bind
def J8:=@Result.andThen_ok
def B82:=@setRow_setRow
def A62:=@Array.toList_setIfInBounds
def Q9:=@Nat.add_assoc
def C4o:=@run_firstCells_some
def K1:=@run_underlying
def U9:=@Addr.add_lit
def I6:=@List.eq_nil_of_length_eq_zero
def B0:=@List.length_append
def V8:=@Nat.add_mul
def H3:=@Nat.mul_le_mul_right
def I8:=@List.size_toArray
def B4:=@List.length_take
def C9:=@List.length_drop
def E7:=@Array.length_toList
def A3R:=@setRow_other
def B5a:=@List.take_left
def C1q:=@run_append_grow
def B5b:=@growslice_fits
def B2i:=@grownCap_ge
def A2q:=@grownCap_le_maxLen
def A49:=@heap_alloc_new
def A3S:=@Array.size_append
def A2r:=@size_zeroCells
def B39:=@Array.toList_append
def B3:=@List.append_assoc
def A2V:=@Nat.one_pos
def B2:=@List.mem_singleton
def D9:=@List.mem_append
def A8Q:=@Nat.lt_of_lt_of_le
def O5:=@World.cell?_of_block
def N7:=@World.block_lt_of_cell?
def J9:=@Array.getElem?_eq_getElem
def C1:=@Nat.le_refl
def J0:=@Nat.zero_le
def D0:=@List.getElem?_eq_some_iff
def I0:=@List.getElem?_take_of_lt
def G6:=@List.getElem?_drop
def B8l:=@Option.bind_some
def F0:=@List.length_cons
def A9:=@List.mem_cons_self
def B6:=@List.mem_cons_of_mem
def A4b:=@Nat.le_trans
def B0M:=@List.nodup_nil
def C4:=@List.all_eq_true
def V0:=@Bool.not_eq_true'
def A0p:=@List.any_eq_false
def G3:=@List.mem_flatMap
def L4:=@Array.getD_eq_getD_getElem?
def B38:=@Array.getElem?_setIfInBounds
def A6:=@if_pos
def A4:=@if_neg
def H2:=@List.map_cons
def E2:=@List.cons_append
def E0:=@List.mem_map
def A0q:=@List.drop_eq_nil_of_le
def C8:=@List.getElem?_eq_getElem
def I5:=@List.drop_eq_getElem_cons
def A1c:=@decide_eq_true
def C3:=@Bool.not_true
def J7:=@Bool.false_eq_true
def L5:=@if_false
def K2:=@Bool.true_and
def A86:=@decide_eq_false
def S3:=@List.drop_drop
def F2:=@List.mem_append_left
def D7:=@List.mem_append_right
def Q3:=@Nat.blt_eq
def F8:=@List.getElem?_append_left
def G2:=@List.getElem?_append_right
def B4M:=@Nat.zero_mul
def E8:=@Nat.zero_add
def M0:=@if_true
def E3:=@List.getD_eq_getElem?_getD
def A7:=@Nat.eq_of_beq_eq_true
def C6:=@List.mem_cons
def A1J:=@List.not_mem_nil
def B5c:=@or_false
def A8:=@cond_true
def A3:=@cond_false
def C0:=@of_decide_eq_true
def C6m:=@of_decide_eq_false
def D0P:=@Nat.mul_one
def C6n:=@run_loadCells_list
def A2v:=@List.getElem?_toArray
def O6:=@List.mem_of_getElem?
def A4c:=@Sem.run_pure
def A1K:=@Option.getD_some
def B5:=@Bool.and_eq_true
def Q1:=@Option.map_some
def A0v:=@Int.toNat_of_nonneg
def A1k:=@Ne.symm
def H7:=@List.nil_append
def N1:=@congrArg
def D19:=@HEq.rfl
def S4:=@List.take_take
def A0H:=@Nat.min_eq_left
def A2s:=@List.drop_take
def O7:=@Nat.succ_mul
def D4:=@Nat.le_of_ble_eq_true
def B4N:=@List.map_nil
def A75:=@List.ext_getElem
def A0I:=@Nat.mul_comm
def C1s:=@Nat.mul_add_mod
def C8S:=@getElem!_pos
def B74:=@Int.le_refl
def U0:=@List.length_replicate
def B0N:=@World.ownsRow_lit
def C1a:=@List.getElem_replicate
def A0w:=@List.replicate_succ
def B75:=@List.flatten_cons
def Q4:=@List.drop_zero
def G4:=@List.take_append_of_le_length
def H4:=@List.take_of_length_le
def A76:=@List.drop_append
def W7:=@List.drop_of_length_le
def A0R:=@Nat.add_sub_cancel_left
def C8T:=@Nat.add_comm
def C1b:=@List.getElem_cons_zero
def A4A:=@List.drop_left
def A4d:=@List.getElem_cons_succ
def A3T:=@Nat.beq_refl
def A4p:=@List.map_append
def B76:=@List.flatMap_cons
def C8U:=@List.map_map
def S5:=@List.length_map
def A5G:=@Nat.div_lt_iff_lt_mul
def A4e:=@Nat.mod_lt
def A4q:=@Nat.div_add_mod
def N4:=@List.getElem?_map
def P1:=@List.getElem_append_left
def R0:=@List.drop_append_of_le_length
def M5:=@List.getElem_append_right
def C1c:=@Nat.le_of_lt
def B8m:=@List.take_append
def A3U:=@List.ext_getElem?
def A63:=@List.mem_of_mem_take
def A1d:=@List.mem_of_mem_drop
def S6:=@List.length_set
def A1E:=@List.getElem_set_self
def B3A:=@List.getElem_set_ne
def K5:=@List.suffix_refl
def B8n:=@List.suffix_cons
def A2t:=@List.suffix_append
def B8o:=@List.range'_succ
def L2:=@Array.getElem?_toList
def B2j:=@List.range_eq_range'
def A5B:=@List.any_cons
def A64:=@Bool.or_eq_false_iff
def L6:=@Bool.or_eq_true
def A77:=@List.any_eq_true
def H0:=@List.length_singleton
def B2k:=@Array.mem_toList_iff
def C5J:=@Bool.false_or
def A4f:=@List.mem_filterMap
def B3B:=@List.filterMap_cons
def A4B:=@List.append_cancel_left
def A2f:=@Array.toList_inj
def B83:=@wp_seq
def B8p:=@Nat.lt_succ_self
def A4r:=@List.any_append
def C3p:=@List.getElem?_set_ne
def F9:=@Option.some.injEq
def B8q:=@List.getElem?_cons_zero
def B2l:=@Nat.sub_mul
def A65:=@List.mem_iff_getElem
def B0V:=@List.mem_iff_getElem?
def A2w:=@List.singleton_append
def B77:=@List.getElem_take
def B0O:=@List.getElem_drop
def B8r:=@block_lt_of_cell
def B5d:=@Array.getElem?_append_left
def C1t:=@Option.some.inj
def A5C:=@Prod.mk.injEq
def B8s:=@List.isEmpty_iff
def D5:=@Int.toNat_natCast
def I4:=@decide_eq_true_eq
def A2W:=@Nat.lt_irrefl
def A3V:=@List.all_eq_false
def O8:=@List.mem_range
def C5K:=@Bool.and_true
def C8V:=@Nat.or_lt_two_pow
def F3:=@List.getElem_mem
def C21:=@List.getElem?_eq_none
def B78:=@Nat.pow_add
def A0S:=@Nat.pow_le_pow_right
def B5e:=@Int.tmod_eq_emod_of_nonneg
def B79:=@Nat.lt_trichotomy
def C4p:=@List.map_congr_left
def A5e:=@Nat.two_pow_add_eq_or_of_lt
def B5f:=@Int.fdiv_eq_ediv_of_nonneg
def B8t:=@Int.natCast_ediv
def A66:=@Bool.false_and
def R1:=@decide_true
def J1:=@Bool.not_false
def A87:=@List.length_zip
def H5:=@List.take_succ_eq_append_getElem
def N8:=@List.length_eq_zero_iff
def C1e:=@Nat.lt_or_ge
def C22:=@ByteArray.data_append
def A0r:=@Int.tdiv_eq_ediv_of_nonneg
def B8u:=@Nat.testBit_div_two_pow
def A13:=@Nat.two_pow_pos
def B0P:=@Nat.testBit_eq_decide_div_mod_eq
def A4g:=@Nat.pow_succ
def A67:=@Nat.div_lt_of_lt_mul
def C6p:=@Nat.lt_of_le_of_lt
def A4C:=@Nat.and_two_pow_sub_one_eq_mod
def B5g:=@Bool.and_false
def C1f:=@ByteArray.size_extract
def A2g:=@List.take_length
def A8R:=@Bool.true_eq_false
def C1g:=@Int.zero_add
def B5r:=@List.pairwise_iff_getElem
def C8W:=@Bool.not_not
def C6q:=@List.getElem_of_eq
def B5s:=@List.mem_take_iff_getElem
def B1H:=@IntKind.wrap_i64
def C3r:=@Nat.min_def
def C1u:=@List.take_left'
def Thawed(n:Nat)(fz:Nat×Nat):Prop:=fz=(0,0)\/fz=(n,n+1)
theorem Thawed.not{w:World}{g:Nat}{cur:Array Value}{t:TypeId}{fz:Nat×Nat}(hg:w.heap[g]? = some (.cells cur t fz))(hf:Thawed cur.size fz){i:Nat}(hi:i<cur.size):w.frozen? ⟨g,i,none⟩=false:=by
 rcases hf with rfl | rfl
 ·simp only [World.frozen?,hg,C20,A1j];right;exact Nat.not_lt_zero _
 ·simp only [World.frozen?,hg,C20,A1j];left;omega
def TS(size n:Nat)(fz:Nat×Nat):Prop:=Thawed n fz/\(fz=(0,0)\/size=1)
def owns(w:World)(base:Nat)(e:TypeId)(size:Nat)(v:Value)(n:Nat)(xs:List Value):Prop:=
 xs.length=n*size/\
 ((v=.slice none 0 0/\n=0)\/
  ∃ g cap cur fz,v=.slice (some ⟨g,0,none⟩) n cap/\base<=g/\w.heap[g]? = some (.cells cur e fz)/\TS size cur.size fz/\n<=cap/\cap<=maxLen/\cur.size=cap*size/\cur.toList.take (n*size)=xs)
section
variable {w:World} {base:Nat} {e:TypeId} {size:Nat} {v:Value} {n:Nat} {xs:List Value}
theorem C3s(h:w.ownsRow base e size v n xs):owns w base e size v n xs:=by
 refine ⟨h.1,?_⟩;rcases h.2 with hn | ⟨g,cap,cur,hv,hb,hg,rest⟩
 ·exact .inl hn
 ·exact .inr ⟨g,cap,cur,(0,0),hv,hb,hg,⟨.inl rfl,.inl rfl⟩,rest⟩
theorem A90(w:World)(base:Nat)(e:TypeId)(size:Nat):owns w base e size (.slice none 0 0) 0 []:=⟨by simp,.inl ⟨rfl,rfl⟩⟩
theorem E99(h:owns w base e size v n xs):∀ k,v.ownBlock=some k->base<=k/\k<w.heap.size:=by
 intro k hk;rcases h.2 with ⟨rfl,_⟩ | ⟨g,cap,cur,fz,rfl,hb,hg,_⟩
 ·simp [Value.ownBlock] at hk
 ·simp [Value.ownBlock] at hk;subst hk;exact ⟨hb,(B7.1 hg).1⟩
theorem A3W(h:owns w base e size v n xs){g:Nat}(hg:v.ownBlock=some g):∀ j u,xs[j]? = some u->w.cell? ((⟨g,0,none⟩:Addr).add j)=some u:=by
 intro j u hu;rcases h.2 with ⟨rfl,_⟩ | ⟨g',cap,cur,fz,rfl,_,hgg,_,_,_,_,htake⟩
 ·simp [Value.ownBlock] at hg
 ·simp [Value.ownBlock] at hg;subst hg;have hadd:(⟨g',0,none⟩:Addr).add j=⟨g',j,none⟩:=by unfold Addr.add;split<;>simp_all
  rw [hadd,A1b w g' j cur e fz hgg];rw [<- htake,K3] at hu;split at hu
  ·simpa using hu
  ·cases hu
end
theorem A88(P:Program)(g o:Nat)(t:TypeId)(fz:Nat×Nat):∀ (vs:List Value) (i:Nat) (cur:Array Value) (w:World),w.heap[g]? = some (.cells cur t fz)->Thawed cur.size fz->o+i+vs.length<=cur.size->(∀ v∈vs,v.oneCell' = true)->
  (storeCells ⟨g,o,none⟩ vs i).run P w=.ok () (w.setRow g (cur.toList.take (o+i)++vs++cur.toList.drop (o+i+vs.length)).toArray)
 | [],i,cur,w,hg,_,_,_=>by
  simp only [storeCells,G5,M3,L0,N6,A61];rw [setRow_self w g cur t fz hg];rfl
 | v::rest,i,cur,w,hg,hfz,hl,h1=>by
  have hi:o+i<cur.size:=by simp at hl;omega
  have hadd:(⟨g,o,none⟩:Addr).add i=⟨g,o+i,none⟩:=by unfold Addr.add;split<;>simp_all
  have hcell:w.cell? ⟨g,o+i,none⟩=some cur[o+i]:=by simp [World.cell?,hg,hi]
  have hfro:w.frozen? ⟨g,o+i,none⟩=false:=Thawed.not hg hfz hi;have hst:(store ((⟨g,o,none⟩:Addr).add i) v).run P w=.ok () (w.setRow g (cur.setIfInBounds (o+i) v)):=by
   rw [hadd,run_store P w _ v _ (h1 v (by simp)),hcell];simp [hfro,B73 w g (o+i) cur t fz v hg]
  have ih:=A88 P g o t fz rest (i+1) (cur.setIfInBounds (o+i) v) (w.setRow g (cur.setIfInBounds (o+i) v)) (A0Q w g cur _ t _ hg) (by simpa using hfz) (by simp at hl ⊢;omega) (fun x hx=>h1 x (by simp [hx]));simp only [storeCells,E1,hst,J8,ih,B82]
  congr 3
  have e:=list_seg_step cur.toList (o+i) v rest (by simp at hl ⊢;omega);simpa [A62,Q9] using e
section
variable {P:Program} (w:World)
theorem B0a(t ty e:TypeId)(i:TypeInfo)(ht:P.underlying t=some (.slice e))(hi:P.info? e=some i)
  (g sLen sCap:Nat) (cur:Array Value) (fz:Nat×Nat) (hg:w.heap[g]? = some (.cells cur e fz)) (hfz:Thawed cur.size fz)
  (a:Addr) (m c:Nat) (news:List Value) (hl:news.length=m*i.size) (hnews:∀ j u,news[j]? = some u->w.cell? (a.add j)=some u) (h1:∀ u∈news,u.oneCell' = true)
  (hroom:sLen+m<=sCap) (hfit:sLen*i.size+news.length<=cur.size) :
  (Builtin.append_ #[t,t] ty #[.slice (some ⟨g,0,none⟩) sLen sCap,.slice (some a) m c]).run P w =
   .ok (.slice (some ⟨g,0,none⟩) (sLen+m) sCap) (w.setRow g (cur.toList.take (sLen*i.size)++news++cur.toList.drop (sLen*i.size+news.length)).toArray):=by
 have hf:=C4o (P:=P) w i.size m a m c news hl hnews;have hst:=A88 P g (sLen*i.size) e fz news 0 cur w hg hfz (by simpa using hfit) h1;simp only [L0] at hst;simp [Builtin.append_,K1 ht,sizeOf,typeInfo,hi,Builtin.lenOf,hroom,hf,U9,hst]
theorem D0Q(base:Nat)(t ty e:TypeId)(i:TypeInfo)(z:Value)(size bytes:Nat)(ht:P.underlying t=some (.slice e))(hi:P.info? e=some i)(hz:i.zero=some z)
  (hsize:i.size=size) (hby:i.bytes=bytes) (hzs:z.cells.size=size) (hsz:0<size)
  (v:Value) (n:Nat) (xs:List Value) (hown:owns w base e size v n xs)
  (a:Addr) (m c:Nat) (news:List Value) (hl:news.length=m*size) (hnews:∀ j u,news[j]? = some u->w.cell? (a.add j)=some u) (h1:∀ u∈news,u.oneCell' = true)
  (h63:n+m<=maxLen) (hbytes:(n+m)*bytes<=140737488355328) (hbase:base<=w.heap.size) :
  ∃ v' w',(Builtin.append_ #[t,t] ty #[v,.slice (some a) m c]).run P w=.ok v' w'/\owns w' base e size v' (n+m) (xs++news)/\w.grownBy w' v.ownBlock/\
   (v' = .slice none 0 0↔v=.slice none 0 0/\m=0):=by
 rcases hown.2 with ⟨rfl,rfl⟩ | ⟨g,cap,cur,fz,rfl,hbg,hg,hfz,hnc,hcm,hcs,htake⟩
 ·have hx:xs = []:=I6 (by simpa using hown.1);subst hx;obtain ⟨v',w',h1,h2,h3,h4⟩:=run_append_own (P:=P) w base t ty e i z size bytes ht hi hz hsize hby hzs hsz _ 0 [] (World.ownsRow_nil w base e size) a m c news hl hnews h1 h63 hbytes hbase;exact ⟨v',w',h1,C3s h2,h3,h4⟩
 ·subst hsize;subst hby;have hlen:(xs++news).length=(n+m)*i.size:=by rw [B0,hown.1,hl,V8]
  have hsmall:n+m<=9223372036854775807:=by simp only [maxLen] at h63;omega
  by_cases hroom:n+m<=cap
  ·have hfit:n*i.size+news.length<=cur.size:=by rw [hl,hcs,<- V8];exact H3 _ hroom
   have hr:=B0a (P:=P) w t ty e i ht hi g n cap cur fz hg hfz.1 a m c news hl hnews h1 hroom hfit;have hsz2:(cur.toList.take (n*i.size)++news++cur.toList.drop (n*i.size+news.length)).toArray.size=cur.size:=by
    simp only [I8,B0,B4,C9,E7];omega
   refine ⟨_,_,hr,⟨hlen,.inr ⟨g,cap,_,fz,rfl,hbg,A0Q w g cur _ e _ hg,by rw [hsz2];exact hfz,hroom,hcm,by rw [hsz2];exact hcs,?_⟩⟩,⟨rfl,rfl,rfl,by simp,fun k _ hk=>A3R w g k _ (fun e=>hk (by simp [Value.ownBlock,e]))⟩,by simp⟩;rw [htake,<- hlen];exact B5a
  ·have holds:∀ j u,xs[j]? = some u->w.cell? ((⟨g,0,none⟩:Addr).add j)=some u:=A3W hown (g:=g) rfl;have hr:=C1q (P:=P) w t ty e i z ht hi hz ⟨g,0,none⟩ n cap xs hown.1 holds a m c news hl hnews (by omega) (by omega) (B5b (by omega) hbytes);have hge:=B2i w (n+m) cap e;have hcm':grownCap w (n+m) cap e<=maxLen:=A2q w (n+m) cap e h63;refine ⟨_,_,hr,C3s ⟨hlen,.inr ⟨w.heap.size,_,_,rfl,hbase,A49 w.drew _,hge,hcm',?_,?_⟩⟩,⟨rfl,rfl,rfl,by simp,fun k hk _=>heap_alloc_old w.drew _ k hk⟩,by simp⟩
   ·simp only [A3S,I8,A2r,hzs,hown.1,hl,<- V8]
    congr 1
    omega
   ·simp only [B39,B3];rw [<- B3,<- hlen];exact B5a
end
end Go.Proofs.YthnfghmjipikhaaGreatDoor.Ev
