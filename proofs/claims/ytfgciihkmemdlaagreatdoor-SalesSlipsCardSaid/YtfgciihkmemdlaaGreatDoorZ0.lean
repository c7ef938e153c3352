/- What all laws about sales rest on, beside any goroutines. Conditions: none. -/
import Derived.Conc.Beside
namespace Go
abbrev kaa:=@List.getElem?_eq_getElem
abbrev kab:=@List.getElem?_eq_some_iff
abbrev kac:=@Nat.le_refl
abbrev kad:=@Array.getElem?_eq_some_iff
abbrev kae:=@Nat.lt_or_ge
abbrev kaf:=@Nat.lt_of_lt_of_le
abbrev kag:=@List.mem_of_getElem?
abbrev kah:=@Nat.le_of_ble_eq_true
abbrev kai:=@List.getD_eq_getElem?_getD
abbrev kaj:=@Nat.eq_of_beq_eq_true
abbrev kak:=@Nat.le_trans
abbrev kal:=@Array.getElem?_setIfInBounds_ne
abbrev kam:=@List.getElem?_append_left
abbrev kan:=@Option.map_eq_some_iff
abbrev kao:=@List.getElem?_append_right
abbrev kap:=@Option.some.injEq
abbrev kaq:=@List.getElem?_map
abbrev kar:=@List.all_eq_true
abbrev kas:=@List.eq_nil_of_length_eq_zero
abbrev kat:=@List.mem_cons
abbrev kau:=@Array.getD_eq_getD_getElem?
abbrev kav:=@List.mem_map
abbrev kaw:=@Option.some.inj
abbrev kax:=@List.mem_append
abbrev kay:=@List.getElem?_eq_none
abbrev kaz:=@List.any_eq_true
abbrev ka0:=@Bool.and_eq_true
abbrev ka1:=@Bool.eq_false_or_eq_true
abbrev ka2:=@Array.getElem?_eq_getElem
abbrev ka3:=@List.mem_range
abbrev ka4:=@Array.append_empty
abbrev ka5:=@List.getElem?_take
abbrev ka6:=@List.length_map
abbrev ka7:=@List.drop_eq_nil_iff
abbrev ka8:=@Bool.eq_false_iff
abbrev ka9:=@Array.toArray_toList
abbrev kba:=@List.getElem?_of_mem
abbrev kbb:=@List.getElem?_drop
abbrev kbc:=@List.length_filter_le
abbrev kbd:=@Bool.false_eq_true
abbrev kbe:=@Array.getElem?_map
abbrev kbf:=@List.getElem_mem
abbrev kbg:=@List.append_assoc
abbrev kbh:=@List.mem_or_eq_of_mem_set
abbrev kbi:=@Nat.pow_le_pow_right
abbrev kbj:=@Nat.eq_zero_or_pos
abbrev kbk:=@List.findIdx?_eq_some_iff_getElem
abbrev kbl:=@Array.mem_of_getElem?
abbrev kbm:=@Array.getElem?_setIfInBounds_self_of_lt
abbrev kbn:=@List.length_pos_iff
abbrev kbo:=@List.length_cons
abbrev kbp:=@Bool.or_eq_false_iff
abbrev kbq:=@List.map_cons
abbrev kbr:=@Array.getElem?_push
abbrev kbs:=@List.length_eq_zero_iff
abbrev kbt:=@List.map_append
abbrev kbu:=@Nat.lt_wfRel.wf
abbrev kbv:=@List.length_nil
abbrev kbw:=@List.mem_filter
abbrev kbx:=@List.length_append
abbrev kby:=@List.mem_of_mem_drop
abbrev kbz:=@List.mem_of_mem_take
abbrev kb0:=@Nat.zero_add
abbrev kb1:=@Nat.add_zero
abbrev kb2:=@List.not_mem_nil
abbrev kb3:=@Array.getElem?_append_left
abbrev kb4:=@List.take_of_length_le
abbrev kb5:=@List.getElem_cons_drop
abbrev kb6:=@Nat.zero_le
abbrev kb7:=@Bool.not_eq_true'
abbrev kb8:=@List.take_add_one
abbrev kb9:=@Int.toNat_natCast
abbrev kca:=@Nat.one_pos
abbrev kcb:=@List.findIdx?_eq_none_iff
abbrev kcc:=@Option.map_some
abbrev kcd:=@Nat.min_eq_left
abbrev kce:=@Array.ext_getElem?
abbrev kcf:=@Array.empty_append
abbrev kcg:=@List.mem_singleton
abbrev kch:=@List.filter_append
abbrev kci:=@List.mem_flatten
abbrev kcj:=@List.length_take
abbrev kck:=@Bool.toNat_false
abbrev kcl:=@Array.getElem?_setIfInBounds
abbrev kcm:=@List.flatten_cons
abbrev kcn:=@List.map_congr_left
abbrev kco:=@Array.mem_append
abbrev kcp:=@Option.getD_some
abbrev kcq:=@List.mem_flatMap
abbrev kcr:=@Int.natCast_zero
abbrev kcs:=@Array.mem_iff_getElem
abbrev kct:=@Nat.succ_mul
abbrev kcu:=@Nat.ble_eq_true_of_le
abbrev kcv:=@Nat.lt_of_le_of_lt
abbrev kcw:=@Array.push_eq_append
abbrev kcx:=@List.mem_iff_getElem
abbrev kcy:=@Nat.mul_le_mul_right
abbrev kcz:=@List.length_set
abbrev kc0:=@List.ext_getElem?
abbrev kc1:=@Bool.or_eq_true
abbrev kc2:=@Option.isSome_iff_exists
abbrev kc3:=@Nat.lt_succ_iff_lt_or_eq
abbrev kc4:=@List.eq_nil_iff_forall_not_mem
abbrev kc5:=@List.getElem?_set_self
abbrev kc6:=@Array.append_assoc
abbrev kc7:=@List.mem_zipIdx_iff_getElem?
abbrev kc8:=@List.cons.injEq
abbrev kc9:=@List.set_getElem_self
abbrev kda:=@List.append_nil
abbrev kdb:=@Nat.add_assoc
abbrev kdc:=@List.getElem?_set
abbrev kdd:=@Nat.lt_trichotomy
abbrev kde:=@Nat.mod_two_eq_zero_or_one
abbrev kdf:=@Int.fdiv_eq_ediv_of_nonneg
abbrev kdg:=@List.getElem?_set_ne
abbrev kdh:=@List.mem_cons_of_mem
abbrev kdi:=@List.range_eq_range'
abbrev kdj:=@Array.mapM_eq_mapM_toList
abbrev kdk:=@List.filter_cons
abbrev kdl:=@List.take_length
abbrev kdm:=@List.take_succ_cons
abbrev kdn:=@List.nil_append
abbrev kdo:=@List.mem_cons_self
abbrev kdp:=@List.range_succ
abbrev kdq:=@Bool.toNat_true
abbrev kdr:=@Array.getElem?_push_lt
abbrev kds:=@List.getElem_cons_succ
abbrev kdt:=@List.getElem_cons_zero
abbrev kdu:=@Nat.testBit_lt_two_pow
abbrev kdv:=@List.size_toArray
abbrev kdw:=@Nat.le_of_eq
abbrev kdx:=@Array.toList_map
abbrev kdy:=@List.mem_toArray
abbrev kdz:=@Nat.lt_irrefl
abbrev kd0:=@List.filter_nil
abbrev kd1:=@Nat.lt_trans
abbrev kd2:=@Int.add_zero
abbrev kd3:=@List.mapM_cons
abbrev kd4:=@List.nodup_nil
abbrev kd5:=@List.take_zero
abbrev kd6:=@Nat.not_lt
abbrev kd7:=@Nat.mul_one
abbrev kd8:=@Array.ext'
abbrev kd9:=@List.take_append_drop
abbrev kea:=@List.pairwise_iff_getElem
abbrev keb:=@List.flatMap_cons
abbrev kec:=@Nat.add_sub_cancel
abbrev ked:=@List.getElem_of_mem
abbrev kee:=@List.flatten_append
abbrev kef:=@List.eq_of_mem_replicate
abbrev keg:=@List.map_set
abbrev keh:=@Int.natCast_nonneg
abbrev kei:=@Nat.sub_self
abbrev kej:=@List.map_nil
abbrev kek:=@Int.le_refl
theorem oc{p:Prop}(h:p:=by omega):p:=h
theorem od{p:Prop}(h:p:=by simp):p:=h
theorem oe{p:Prop}(h:p:=by decide):p:=h
theorem og{p:Prop}(h:p:=by rfl):p:=h
theorem oh{p:Prop}(h:p:=by simp [Act.eval, *]):p:=h
theorem oj{p:Prop}(h:p:=by first|kernel_rfl|decide +kernel):p:=h
theorem ol{p:Prop}(h:p:=by intro wq hcq;exact⟨run_eq_of fun K hK=>(by go_simp;exact hK),by simp [go_sem, *]⟩):p:=h
theorem om{p:Prop}(h:p:=by first|exact gdN rfl|exact gdT rfl rfl rfl):p:=h
theorem oo{p:Prop}(h:p:=by simp [h]):p:=h
theorem oq{p:Prop}(h:p:=by assumption):p:=h
theorem ot{p:Prop}(h:p:=by kernel_rfl):p:=h
theorem ou{p:Prop}(h:p:=by go_simp;exact hK):p:=h
theorem ox{p:Prop}(h:p:=by simp [AV.ids]):p:=h
theorem oy{p:Prop}(h:p:=by simp;omega):p:=h
theorem oz{p:Prop}(h:p:=by rcases hb with h|h|h;exact .inr (.inl h);exact .inl h;exact .inr (.inr h)):p:=h
theorem oA{p:Prop}(h:p:=by rw [←ha];exact Cx.ti_agg ht w):p:=h
theorem oB{p:Prop}(h:p:=by first|assumption|decide|omega):p:=h
theorem oC{p:Prop}(h:p:=by first|exact hz|exact(yfq _ _).trans hz):p:=h
theorem oD{p:Prop}(h:p:=by rw [hth];exact hd):p:=h
theorem oE{p:Prop}(h:p:=by simp [Env.bufAt,Value.oneCell']):p:=h
theorem oF{p:Prop}(h:p:=by rw [hlp,hlq];omega):p:=h
theorem oG{p:Prop}(h:p:=by exact gdN rfl):p:=h
theorem oH{p:Prop}(h:p:=by rw [zaa,if_neg (by omega)] at hx;exact hx):p:=h
theorem oI{p:Prop}(h:p:=by simpa [AV.ids] using hk):p:=h
theorem oJ{p:Prop}(h:p:=by simp [go_sem, *]):p:=h
theorem oK{p:Prop}(h:p:=by rw [World.putObj_size];exact kac _):p:=h
theorem oL{p:Prop}(h:p:=by simp only [za7.ids];exact zal.2 ⟨x,h,hxk⟩):p:=h
theorem oM{p:Prop}(h:p:=by first|assumption|omega):p:=h
theorem oN{p:Prop}(h:p:=by simp [ltInt];intro _;omega):p:=h
theorem oO{p:Prop}(h:p:=by rw [←e];exact hc):p:=h
theorem oP{p:Prop}(h:p:=by simp [Region.wanted,yielded, *]):p:=h
theorem oQ{p:Prop}(h:p:=by simpa [AV.ids] using hj):p:=h
theorem oR{p:Prop}(h:p:=by rw [hth];exact hl.1):p:=h
theorem oS{p:Prop}(h:p:=by rw [hr];omega):p:=h
theorem oT{p:Prop}(h:p:=by exact si):p:=h
theorem oU{p:Prop}(h:p:=by simp [base]):p:=h
theorem oV{p:Prop}(h:p:=by rw [hi];simp):p:=h
theorem oW{p:Prop}(h:p:=by cases e):p:=h
structure Wsp(P:Prop):Prop where
 p:P
theorem oa{a b:Prop}(x:a)(h:Wsp a->b:=by intro qsp;simpa using qsp.p):b:=h ⟨x⟩
end Go
