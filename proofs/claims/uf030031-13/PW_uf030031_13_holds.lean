import PyProof.Rows.All
import Wide.All
import Open.Line
import Open.Boot
import Open.Tree
import PySem.Challenge.RW_uf030031_13
open List (length_cons length_eq_zero_iff drop_nil replicate_succ flatten_cons all_eq_true mem_of_getElem? range_succ_eq_map all_cons all_map toArray_inj getElem?_eq_getElem getElem?_toArray mem_cons not_mem_nil mem_singleton getElem?_eq_none lookup_cons map_cons getElem?_set_self length_set getElem?_set_ne length_append getElem?_append_left getElem?_append_right drop_eq_getElem_cons getElem_mem append_nil isEmpty_iff contains_iff_mem getD_eq_getElem?_getD length_modify getElem?_modify_eq getElem?_modify_ne ext_getElem? eraseIdx_eq_take_drop_succ dropLast_eq_take mem_range nodup_cons mem_map mem_of_find?_eq_some find?_some mem_append drop_length append_assoc map_nil take_length length_map getElem?_map length_take mem_of_mem_take length_range getElem?_range flatten_replicate_singleton length_replicate range_succ map_append map_map map_congr_left count_append count_singleton length_zip length_drop filter_cons length_pos_iff isEmpty_eq_false_iff mem_flatMap)
open Nat (lt_of_le_of_lt le_of_eq succ_add le_succ zero_le le_succ_of_le le_add_right lt_succ_self le_of_succ_le sub_add_cancel lt_of_lt_of_le succ_pos succ_le_succ ne_of_lt le_add_left le_of_not_lt le_of_lt_succ lt_succ_of_le zero_lt_of_lt lt_irrefl lt_of_le_of_ne lt_succ_iff_lt_or_eq sub_le lt_succ_of_lt eq_of_beq_eq_true le_antisymm sub_eq_zero_iff_le min_eq_left min_le_left le_of_ble_eq_true not_lt_of_le ble_eq_true_of_le beq_refl eq_zero_or_pos)
open Bool (and_eq_true_iff not_eq_true' or_eq_true_iff and_eq_true eq_false_iff or_eq_true)
open Option (bind_eq_some_iff map_eq_some_iff map_some isNone_iff_eq_none)
open Int (natCast_nonneg le_def ofNat_lt sub_self ofNat_le eq_ofNat_of_zero_le add_zero toNat_natCast mul_comm emod_nonneg emod_lt_of_pos)
set_option Elab.async false
set_option genSizeOf false
set_option genInjectivity false
set_option linter.unusedVariables false
set_option linter.unusedSimpArgs false
set_option maxRecDepth 4000
namespace Mine
theorem om1:∀ {a0 a1:Nat},a0<a1->a0+1<=a1:=fun h0=>Nat.succ_le_of_lt h0
theorem om2:∀ {a0 a1 a2:Nat},a0=a2->a1=a2->a0=a1:=fun h0 h1=>h1▸h0
theorem om4:∀ {a0 a1 a2:Nat},a0+(a2+1)<a1->a0<a1:=fun h0=>Nat.lt_of_add_right_lt h0
theorem om5:∀ {a0 a1 a2:Nat},a0+(a1+1)<a2->a0+1+a1<a2:=fun h0=>lt_of_le_of_lt (le_of_eq (succ_add _ _)) h0
theorem om6:∀ {a0 a1:Nat},a0+2*a1+1<900->a0+2*a1<900:=fun h0=>(Nat.le_trans (le_succ _) h0)
theorem Ep:0<=64:=zero_le 64
theorem Eo:∀ {a0:Nat},a0<63->a0+1<=64:=fun h0=>le_succ_of_le h0
theorem En:∀ {a0:Int} {a1:Nat},0<=a0->a0<(↑a1:Int)->a0.toNat<a1:=fun h0 h1=>(Int.toNat_lt h0).mpr h1
theorem Em:∀ {a0:Nat} {a1:Int},0<=a1->-(↑a0:Int)<=a1:=by omega
theorem El:∀ {a0:Int} {a1:Nat},a0<(↑a1:Int)->a0<(↑a1:Int):=fun h0=>Int.lt_of_add_one_le h0
theorem DP:∀ {a0:Int},¬0<=a0->a0<0:=fun h0=>Int.lt_of_not_ge h0
theorem DN:∀ {a0:Nat} {a1:Int},-a1<=(↑a0:Int)->-(↑a0:Int)<=a1:=fun h0=>Int.neg_le_of_neg_le h0
theorem Ek:∀ {a0:Int} {a1:Nat},¬0<=a0->-a0<=(↑a1:Int)->(a0+(↑a1:Int)).toNat<a1:=by omega
theorem Ej:∀ {a0:Int} {a1:Nat},¬0<=a0->a0<(↑a1:Int):=fun h0=>Int.lt_of_lt_of_le (Int.not_le.mp h0) (natCast_nonneg _)
theorem Ei:∀ {a0:Int},0<a0/\a0<1073741824->a0≠0:=fun h0=>Int.ne_of_gt h0.1
theorem Eh:∀ {a0:Int},0<a0/\a0<1073741824->0<=a0:=fun h0=>Int.le_of_lt h0.1
theorem Eg:∀ {a0:Int},0<a0->a0≠0:=fun h0=>Ne.symm (Int.ne_of_lt h0)
theorem Ef:∀ {a0:Int},0<a0->0<=a0:=fun h0=>Int.le_of_lt h0
theorem Ee:∀ {a0:Int} {a1:Nat},a0<=(↑a1:Int)/\-(↑a1:Int)<=a0->a1=1048576->-9223372036854775808<=a0/\a0<9223372036854775808:=by omega
theorem Ed:∀ {a0:Nat},a0<=16777216->a0<=16777216:=fun h0=>h0
theorem DG:∀ {a0:Nat} {a1:Int},-(↑a0:Int)<=a1->-(↑a0:Int)<=a1:=fun h0=>le_def.mpr h0
theorem Ec:∀ {a0:Int} {a1:Nat},(a0+(↑a1:Int)).toNat<a1->a0<0:=by omega
theorem Eb:∀ {a0 a1:Nat},(↑a0:Int)<(↑a1:Int)->a0<a1:=fun h0=>ofNat_lt.mp h0
theorem Ea:∀ {a0:Int} {a1 a2:Nat},0<=a0/\a0<=(↑a1:Int)/\a1<a2->a2=1048576->-9223372036854775808<=a0/\a0<9223372036854775808:=by omega
theorem AZ:∀ {a0:Int} {a1 a2:Nat},0<=a0/\a0<=(↑a1:Int)/\a1<a2->¬a0<0:=by intros;simp_all
theorem AY:∀ {a0 a1 a2:Nat},a2<a1->a0<a2->a0<a1:=fun h0 h1=>Nat.lt_trans h1 h0
theorem GT:∀ {a0 a1:Nat},a0<a1->a0+1<a1+1:=fun h0=>Nat.add_lt_add_right h0 1
theorem AW:∀ {a0:Int} {a1:Nat},a0+1+(↑a1:Int)=a0+(↑(a1+1):Int):=by omega
theorem AV:∀ {a0 a1:Nat},a1<a0->0<(↑a0:Int)-(↑a1:Int):=fun h0=>Int.sub_pos_of_lt (ofNat_lt.mpr h0)
theorem AU:∀ {a0:Int} {a1:Nat},a0+(↑(a1+1):Int)=a0+(↑a1:Int)+1:=by omega
theorem AT:∀ {a0 a1:Nat},(↑a0:Int)-(↑(a1+1):Int)=(↑a0:Int)-(↑a1:Int)-1:=by omega
theorem AS:∀ {a0:Nat},(↑a0:Int)-(↑a0:Int)<=0:=Int.le_of_eq (sub_self _)
theorem AQ:∀ {a0:Nat},a0<20->a0+0+0<30:=fun h0=>Nat.le_trans h0 (by decide)
theorem D5:1>0:=Nat.one_pos
theorem D2:∀ {a0 a1:Int},a1<a0->a0-a1-1+1=(↑(a0-a1).toNat:Int):=fun h0=>by rw [Int.sub_add_cancel];exact (Int.toNat_of_nonneg (Int.le_of_lt (Int.sub_pos_of_lt h0))).symm
theorem D0:∀ {a0 a1:Int},¬a1<a0->0=(↑(a0-a1).toNat:Int):=by omega
theorem DZ:∀ {a0 a1:Int} {a2:Nat},(((-(↑a2:Int)<=a1/\a1<=(↑a2:Int))/\-(↑a2:Int)<=a0)/\a0<=(↑a2:Int))/\a0-a1<=(↑a2:Int)->(a0-a1).toNat<=a2:=by intros;simp_all
theorem We:∀ {a0:Nat},a0<3->a0=0\/a0=1\/a0=2:=by omega
theorem DY:∀ {a0:Nat},a0<=a0+1:=le_add_right _ _
theorem DX:∀ {a0 a1:Nat},a0+2*a1+1<900->a0+1+2*a1<900:=fun h0=>lt_of_le_of_lt (le_of_eq (succ_add _ _)) h0
theorem Wd:∀ {a0 a1:Nat},a1<a0->a0-(a1+1)<a0-a1:=fun h0=>Nat.sub_lt_sub_left h0 (lt_succ_self _)
theorem Wc:∀ {a0 a1:Nat},a0+1<=a1->a0<=a1:=fun h0=>le_of_succ_le h0
theorem DW:∀ {a0 a1:Nat},a1+1<=a0->a0-a1=a0-(a1+1)+1:=fun h0=>(sub_add_cancel (Nat.sub_pos_of_lt h0)).symm
theorem DV:∀ {a0 a1:Nat},a1=a0->a0<=a1:=fun h0=>le_of_eq (id (Eq.symm h0))
theorem DU:∀ {a0 a1:Nat},a0+2*(a1+1)<900->a0<1000:=fun h0=>lt_of_lt_of_le (Nat.lt_add_of_pos_right (succ_pos _)) (Nat.le_trans h0 (by decide))
theorem DT:∀ {a0 a1:Nat},a0+2*(a1+1)<900->a0+1+2*a1+1<900:=fun h0=>by rw [succ_add];exact h0
theorem DS:∀ {a0:Nat},a0<200->301+2*a0<900:=fun h0=>lt_of_le_of_lt (Nat.add_le_add_left (Nat.mul_le_mul_left _ (Nat.le_of_lt h0)) _) (by decide)
theorem DR:∀ {a0:Nat},a0<200->4+20*a0+100<9900:=fun h0=>lt_of_le_of_lt (Nat.add_le_add_right (Nat.add_le_add_left (Nat.mul_le_mul_left _ (Nat.le_of_lt h0)) _) _) (by decide)
theorem YW:∀ {a0:Nat},0<a0->0<(↑a0:Int):=fun h0=>Int.natCast_pos.mpr h0
theorem DQ:∀ {a0:Int},a0%3=0\/a0%3=1\/a0%3=2:=by omega
theorem DO:∀ {a0 a1:Nat},a0<=a0+a1+1:=Nat.le_trans (le_add_right _ _) (le_succ _)
theorem DM:∀ {a0:Nat},a0<=1000->a0<=1048576:=fun h0=>Nat.le_trans h0 (by decide)
theorem YV:∀ {a0 a1 a2:Nat},a0+(a2+1)=a1->a0<a1:=fun h0=>lt_of_lt_of_le (Nat.lt_add_of_pos_right (succ_pos _)) (le_of_eq h0)
theorem YU:∀ {a0 a1 a2:Nat},a0+(a1+1)=a2->a0+1+a1=a2:=fun h0=>(succ_add _ _).trans h0
theorem Wb:∀ {a0:Nat},0+a0=a0:=Nat.zero_add _
theorem Wa:∀ {a0:Nat},0<=a0:=zero_le _
theorem DL:∀ {a0 a1:Nat},a0=a1->a0<=a1:=fun h0=>(le_of_eq h0)
theorem DK:∀ {a0 a1:Nat},a0<a1->a0<=a1:=fun h0=>le_of_succ_le h0
theorem DJ:∀ {a0:Nat},a0<=a0:=Nat.le_refl _
theorem qp:∀ {a0 a1:Nat},a0<a1->a0<a1+1:=fun h0=>Nat.lt_add_right 1 h0
theorem DI:∀ {a0 a1 a2:Nat},a0<=a2->a2<=a1->a0<=a1:=fun h0 h1=>Nat.le_trans h0 h1
theorem DH:∀ {a0 a1 a2:Nat},a2<=a1->a0<=a2->a0<=a1:=fun h0 h1=>Nat.le_trans h1 h0
theorem DF:∀ {a0 a1 a2:Nat},a2<=a1->a0<=a2+1->a0<=a1+1:=fun h0 h1=>(Nat.le_trans h1 (succ_le_succ h0))
theorem DE:∀ {a0 a1 a2:Nat},a1<=100->a0+20*a2+110<9900->a0+a1<9900:=by omega
theorem DD:∀ {a0 a1:Nat},a0+20*a1+110<9900->a0+20*a1+100<9900:=by omega
theorem DC:∀ {a0:Nat},a0<=a0-1+1:=by omega
theorem DB:∀ {a0:Int} {a1 a2:Nat},a1<=1048576->a1=a2->-(↑a2:Int)<=a0->a0<(↑a2:Int)->-9223372036854775808<=a0/\a0<9223372036854775808:=by omega
theorem DA:∀ {a0 a1 a2:Nat},a0+20*a2+110<9900->a1<=10->a0+a1+20*a2+100<9900:=by omega
theorem Dz:∀ {a0:Int} {a1 a2:Nat},0<=a0/\a0<(↑a2:Int)->a1=a2->a0<(↑a1:Int):=by intros;simp_all
theorem Dy:∀ {a0:Nat},a0<3->a0≠3:=fun h0=>ne_of_lt h0
theorem Dx:∀ {a0 a1:Nat},a1<a0->a0-a1=a0-(a1+1)+1:=fun h0=>(sub_add_cancel (Nat.sub_pos_of_lt h0)).symm
theorem Dw:∀ {a0 a1 a2 a3 a4:Nat},a2<=a3->a4+a3<=a1->a0<a2->a0<a1:=fun h0 h1 h2=>(Nat.le_trans h2 (Nat.le_trans h0 (Nat.le_trans (le_add_left _ _) h1)))
theorem Dv:∀ {a0 a1 a2 a3:Nat},a2=a3->a3=a1->a0<a2->a0<a1:=by intros;simp_all
theorem Du:∀ {a0 a1 a2 a3:Nat},a0=a2->a2+a1<=a3->a0+(a1-a2)<=a3:=by omega
theorem Dt:∀ {a0 a1:Nat},a0+20*(a1+1)+100<9900->a0+3+20*a1+110<9900:=by omega
theorem Ds:∀ {a0 a1 a2 a3:Nat},a2+a3<=a1->a0<a2->a0<a1:=fun h0 h1=>(Nat.le_trans h1 (Nat.le_trans (le_add_right _ _) h0))
theorem Dr:∀ {a0 a1:Nat},a0+2*(a1+1)<900->a0+2*a1<900:=by omega
theorem Dq:∀ {a0 a1:Nat},a0+20*(a1+1)+100<9900->a0+20*a1+100<9900:=by omega
theorem V9:∀ {a0 a1:Nat},¬a1<a0->a0<=a1:=fun h0=>le_of_not_lt h0
theorem Dp:∀ {a0 a1 a2:Nat},a2<a1+1->a0<a2->a0<a1:=fun h0 h1=>lt_of_lt_of_le h1 (le_of_lt_succ h0)
theorem Do:∀ {a0 a1 a2:Nat},a0<=a1->1<=a2->a2<=a1->a0-1<a1:=by omega
theorem TQ:∀ {a0 a1:Nat},1<=a0->a0<=a1->a0-1<a1:=fun h0 h1=>Nat.sub_one_lt_of_le h0 h1
theorem TP:∀ {a0:Nat},1<=a0->(↑a0:Int)-1=(↑(a0-1):Int):=by omega
theorem qn:∀ {a0 a1:Nat},a0<=a1->a0<a1+1:=fun h0=>lt_succ_of_le h0
theorem YT:∀ {a0:Nat},¬a0=0->(↑a0:Int)≠0:=by intros;simp_all
theorem Dn:∀ {a0 a1:Nat},a0+1+a1=a0+a1+1:=succ_add _ _
theorem Dm:∀ {a0 a1:Nat},¬a1=a0->¬a0<a1->¬a0<a1+1:=by omega
theorem Dl:∀ {a0 a1:Nat},a0+0+a1=a0+a1+0:=rfl
theorem Dk:∀ {a0 a1 a2:Nat},a2=a0+1->a2<=a1->a0<a1:=fun h0 h1=>(Nat.le_trans (le_of_eq (Eq.symm h0)) h1)
theorem TN:∀ {a0 a1 a2:Int},a0<a2->a2<=a1->a0<=a1:=fun h0 h1=>Int.le_trans (Int.le_of_lt h0) h1
theorem YS:∀ {a0 a1:Int},¬a1<a0->a0<=a1:=fun h0=>Int.not_lt.mp h0
theorem V8:∀ {a0:Nat},a0≠0->1<=a0:=fun h0=>Nat.one_le_iff_ne_zero.mpr h0
theorem Di:∀ {a0 a1 a2:Nat},0<a2->a0<=a1->a0<a1\/a0=a1/\0<a2:=by omega
theorem Dh:∀ {a0 a1 a2:Int},a1+a2<=a0->0<=a0-a1-a2:=by omega
theorem v8:∀ {a0:Nat},1<=a0->a0≠0:=fun h0=>Nat.ne_zero_of_lt h0
theorem TM:∀ {a0 a1 a2 a3:Int},a0=a1+a3->a0=a1+a2+(a3-a2):=by omega
theorem Dg:∀ {a0 a1 a2:Nat},a0<a1\/a0=a1/\0<a2+1->0<a2->a0<a1\/a0=a1/\0<a2:=by intros;simp_all
theorem Df:∀ {a0 a1 a2 a3:Int},a0+a2<=a3->a0+a1+(a2-a1)<=a3:=by omega
theorem De:∀ {a0 a1 a2 a3 a4:Int},a1<=a4->a4<=a3-a0-a2->a0+a1+a2<=a3:=by omega
theorem Dd:∀ {a0 a1 a2 a3:Int},a0+a1<=a3->0<=a2->a0+(a1-a2)<=a3:=by omega
theorem Dc:∀ {a0 a1 a2 a3:Int},a0-(a1+a2)-a3=a0-a1-a3-a2:=by omega
theorem Db:∀ {a0 a1 a2 a3:Int},a3=a0->a3<=a2->a0-a1<=a2-a1:=fun h0 h1=>Int.sub_le_sub_right (h0▸h1) _
theorem C9:∀ {a0 a1 a2:Int},a0=a1+(a0-a1-a2)+a2:=by omega
theorem jb:∀ {a0:Nat},a0<a0+1:=(Nat.le_refl _)
theorem TL:∀ {a0:Nat},0<a0+1:=(le_add_left _ _)
theorem C8:∀ {a0 a1:Nat},a1<a0->0<a0:=fun h0=>zero_lt_of_lt h0
theorem TK:∀ {a0 a1 a2:Nat},a0=a2-1->a1=a2-1->a0=a1:=fun h0 h1=>h1▸h0
theorem YR:∀ {a0 a1:Nat},a0<a1->a0=a1->False:=fun h0 h1=>absurd (Nat.le_trans h0 (le_of_eq (Eq.symm h1))) (lt_irrefl _)
theorem C7:∀ {a0 a1:Nat},a0<a1->a0≠a1-1->a0<a1-1:=by omega
theorem C6:∀ {a0 a1:Nat},a0<a1->¬a0=a1-1->a0<a1-1:=by omega
theorem C5:∀ {a0 a1 a2:Nat},a1<a2->a1=a2->a0=a1:=by intros;simp_all
theorem C4:∀ {a0 a1 a2:Nat},a0<a2->a0=a2->a0=a1:=by intros;simp_all
theorem C3:∀ {a0 a1:Nat},0<a1->a0<=a1-1->a0+1<=a1:=fun h0 h1=>Nat.add_le_of_le_sub h0 h1
theorem C2:∀ {a0 a1:Nat},a0=0->a1=0->a0=a1:=fun h0 h1=>h1▸h0
theorem C1:∀ {a0 a1 a2:Nat},a1=a2->a2<a1->0=a0:=by intros;simp_all
theorem C0:∀ {a0 a1 a2:Nat},a1=a2->a1<a2->a0=0:=by intros;simp_all
theorem jr:∀ {a0:Nat},1<=a0+1:=(le_add_left _ _)
theorem CZ:∀ {a0 a1:Nat},a0<a1->a0≠0->a0-1<a1-1:=by omega
theorem CY:∀ {a0 a1:Nat},a0-1=a1-1->a0≠0->a1≠0->a0=a1:=by omega
theorem CX:∀ {a0 a1:Nat},a0+1=a1+1->a0=a1:=fun h0=>Nat.add_right_cancel h0
theorem CW:∀ {a0 a1:Nat},0<a0->a0<=a1->a1<=a0-1->False:=by omega
theorem uh:∀ {a0 a1:Nat},a0<a1+1->¬a0=a1->a0<a1:=by omega
theorem CV:∀ {a0 a1 a2 a3:Nat},1<=a0/\a0<=a1/\a2=a3+1->a0-1<a1:=by omega
theorem CU:∀ {a0 a1 a2 a3 a4:Nat},1<=a1->1<=a0/\a0<=a2/\a3=a4+1->a1-1=a0-1->a0=a1:=by omega
theorem CT:∀ {a0 a1:Nat},0=a1+1->a0=a1:=by intros;simp_all
theorem CR:∀ {a0 a1 a2 a3 a4:Nat},1<=a1->1<=a0/\a0<=a2/\a3=a4+1->a0-1=a1-1->a0=a1:=by omega
theorem CQ:∀ {a0 a1:Nat},0=a0+1->a0=a1:=by intros;simp_all
theorem CP:∀ {a0 a1 a2 a3 a4 a5 a6:Nat},1<=a0/\a0<=a2/\a3=a4+1->1<=a1/\a1<=a2/\a5=a6+1->a0-1=a1-1->a0=a1:=by omega
theorem CO:∀ {a0 a1 a2 a3 a4:Nat},1<=a2/\a2<=a3/\a4=a0+1->1<=a2/\a2<=a3/\a4=a1+1->a0=a1:=by intros;simp_all
theorem CN:∀ {a0:Nat},a0+1<=a0->False:=fun h0=>absurd (succ_le_succ h0) (lt_irrefl _)
theorem CM:∀ {a0:Nat},a0=0->0<a0->False:=fun h0 h1=>absurd (Nat.le_trans h1 (le_of_eq h0)) (lt_irrefl _)
theorem CL:∀ {a0 a1:Nat},a0<=a1->¬a0=a1->a0<a1:=fun h0 h1=>lt_of_le_of_ne h0 h1
theorem YQ:∀ {a0:Nat},1<=a0->a0=0->False:=fun h0 h1=>absurd (Nat.le_trans h0 (le_of_eq h1)) (lt_irrefl _)
theorem CK:∀ {a0:Nat},a0<a0->False:=fun h0=>absurd (succ_le_succ h0) (lt_irrefl _)
theorem CJ:∀ {a0 a1:Nat},a0<a1->a1<a0->False:=fun h0 h1=>absurd (Nat.le_trans h0 (Nat.le_trans (le_succ _) h1)) (lt_irrefl _)
theorem CI:∀ {a0 a1 a2:Nat},a1≠a2->a2=a1->a0=a1:=by intros;simp_all
theorem CH:∀ {a0 a1 a2:Nat},a0≠a2->a0=a2->a0=a1:=fun h0 h1=>(h0 h1).elim
theorem kC:∀ {a0 a1:Nat},a0<a1+1->a0<=a1:=fun h0=>le_of_lt_succ h0
theorem CG:∀ {a0 a1 a2:Nat},0<a2->a0<a1+1->a0<a1\/a0=a1/\0<a2:=by omega
theorem TJ:∀ {a0:Nat},a0<=1000->(↑a0:Int)<=(↑1048576:Int)/\-(↑1048576:Int)<=(↑a0:Int):=fun h0=>⟨ofNat_le.mpr (Nat.le_trans h0 (by decide)),Int.le_trans (by decide) (natCast_nonneg _)⟩
theorem CF:∀ {a0 a1:Int},-1000<=a0/\a0<=1000/\-1000<=a1/\a1<=2000->-(↑1048576:Int)<=a0:=by omega
theorem CE:∀ {a0 a1:Int},-1000<=a0/\a0<=1000/\-1000<=a1/\a1<=2000->a0<=(↑1048576:Int):=fun h0=>Int.le_trans h0.2.1 (by decide)
theorem CD:∀ {a0 a1:Int},-1000<=a1/\a1<=1000/\-1000<=a0/\a0<=2000->-(↑1048576:Int)<=a0:=by omega
theorem CC:∀ {a0 a1:Int},-1000<=a1/\a1<=1000/\-1000<=a0/\a0<=2000->a0<=(↑1048576:Int):=fun h0=>Int.le_trans h0.2.2.2 (by decide)
theorem CB:∀ {a0 a1:Int},-1000<=a1/\a1<=1000/\-1000<=a0/\a0<=2000->a0-a1<=(↑1048576:Int):=by omega
theorem vq:∀ {a0 a1:Nat},a0<a1+1->a0<a1\/a0=a1:=fun h0=>lt_succ_iff_lt_or_eq.mp h0
theorem CA:∀ {a0 a1:Nat},a0≠a1->a0<a1+1->a0<a1:=by omega
theorem YO:∀ {a0:Nat},1+a0=a0+1:=by omega
theorem Cz:∀ {a0:Nat},0+(a0+1)=a0+1:=by intros;simp_all
theorem Cy:∀ {a0 a1 a2:Nat},a2<a1+1->a0<a2->a0<=a1:=by omega
theorem YN:∀ {a0 a1:Nat},a0<a1+1->a0≠a1->a0<a1:=by omega
theorem Cw:∀ {a0:Nat},(↑a0:Int)>0->1<=a0:=fun h0=>ofNat_le.mp h0
theorem Cv:∀ {a0 a1:Nat},a1+1<=a0->a0≠a1:=fun h0=>Ne.symm (ne_of_lt h0)
theorem Cu:∀ {a0:Nat},a0<=100->a0<=1000:=fun h0=>(Nat.le_trans h0 (by decide))
theorem Ct:∀ {a0:Nat},a0<=100->a0+1<=1000:=fun h0=>lt_of_le_of_lt h0 (by decide)
theorem Cs:∀ {a0:Nat},¬a0.succ<=a0:=by intros;simp_all
theorem Qn:∀ {a0:Nat},a0<=50->a0+1<=1000:=fun h0=>lt_of_le_of_lt h0 (by decide)
theorem Cr:0<0->0≠0:=fun h0=>Nat.ne_zero_of_lt h0
theorem Cq:∀ {a0 a1:Nat},a0<a1\/a0=a1/\0<0->a0<a1:=by intros;simp_all
theorem Cp:∀ {a0:Nat},a0<=50->a0+1<100:=by omega
theorem Co:∀ {a0:Nat},a0<=50->a0<=100:=fun h0=>(Nat.le_trans h0 (by decide))
theorem Cm:∀ {a0 a1 a2:Nat},a0+a1=a2+1->a1<a2+1->a0-1<a0:=by omega
theorem Ck:∀ {a0 a1 a2:Nat},a0+a1=a2+1->a1<a2+1->a0-1+(a1+1)=a2+1:=by omega
theorem Cj:∀ {a0 a1:Nat},a1+1<=a0+1->¬a1+1<=a0->a0=a1:=fun h0 h1=>Eq.symm (Nat.eq_of_lt_succ_of_not_lt h0 h1)
theorem Ci:∀ {a0:Nat},1<=a0->0<a0:=fun h0=>zero_lt_of_lt h0
theorem Ch:∀ {a0 a1:Nat},a1<=50->a0<a1+1->a0<100:=fun h0 h1=>Nat.le_trans h1 (Nat.le_trans (succ_le_succ h0) (by decide))
theorem Cg:∀ {a0:Nat},1<=a0->(↑(a0-1):Int)=(↑a0:Int)-1:=by omega
theorem Cf:∀ {a0:Nat},a0≠0->(↑(a0-1):Int)=(↑a0:Int)-1:=by omega
theorem Ce:∀ {a0 a1:Nat},a0<a1+1->a0<a1+1:=fun h0=>Nat.lt_of_succ_le h0
theorem Cd:∀ {a0 a1:Nat},a0≠0->a0<a1+1->a0-1<a1:=by omega
theorem TH:∀ {a0 a1 a2:Nat},a2<a1+1->a0<a2+1->a0<=a1:=by omega
theorem Cb:∀ {a0 a1:Nat},a1≠0->a0≠0->a0-1=a1-1->a0=a1:=by omega
theorem Ca:∀ {a0:Nat},a0+1-1=a0:=rfl
theorem B9:∀ {a0 a1 a2:Nat},1<=a2->a2<=a1->a0=a2-1->a0<a1:=by omega
theorem B8:∀ {a0 a1 a2 a3:Nat},a2=a3->1<=a0->a2=a0-1->1<=a1->a3=a1-1->a0=a1:=by omega
theorem B7:∀ {a0 a1 a2:Nat},a2=a0+1->a2=a1+1->a0=a1:=by intros;simp_all
theorem B6:∀ {a0 a1:Nat},a0=a1+1->a0≠0:=fun h0=>Nat.ne_of_gt (Nat.le_trans (le_add_left _ _) (le_of_eq (Eq.symm h0)))
theorem B4:∀ {a0:Nat},1<=a0->a0-1+1=a0:=fun h0=>sub_add_cancel h0
theorem V7:∀ {a0:Nat},a0<=50->a0<=1000:=fun h0=>(Nat.le_trans h0 (by decide))
theorem B3:∀ {a0 a1:Nat} {a2:Int} {a3:Nat},1<=a3->a3<1->1<=a0->a0<=a1->0+0<=a2:=by intros;simp_all
theorem B2:∀ {a0:Nat},1<=a0->a0<1->0=a0-1:=by intros;simp_all
theorem YM:∀ {a0:Int},a0<=a0:=Int.le_refl _
theorem B1:∀ {a0 a1 a2:Int},a1+a2>a0->a0<=a1+a2:=fun h0=>Int.le_of_lt h0
theorem B0:∀ {a0 a1:Int},a0+a1<=a0+a1:=Int.le_refl _
theorem BZ:∀ {a0 a1 a2:Int},¬a0+a1>a2->a0+a1<=a2:=fun h0=>Int.not_lt.mp h0
theorem BY:∀ {a0 a1 a2:Int},a0+a1<=a2->¬a0+a1>a2:=fun h0=>Int.not_lt_of_ge h0
theorem BX:∀ {a0 a1 a2:Int},a0+a1<=a2->a0+a1<=a2:=fun h0=>le_def.mpr h0
theorem BW:∀ {a0 a1:Int},a0<=a1->a0<=a1:=fun h0=>le_def.mpr h0
theorem BV:∀ {a0 a1 a2 a3 a4:Int},a0=a3->a3+a1<=a4->a4<=a2->a0+a1<=a2:=by omega
theorem BU:∀ {a0 a1 a2 a3 a4 a5 a6 a7:Int},a1<=a3-a4->a0-a4<=a5-a6->a2=a7->a5-a6<=a7-a3->a0+a1<=a2:=by omega
theorem BS:∀ {a0 a1 a2 a3 a4 a5:Int},a1<=a3-a4->a0-a4<=a5-a3->a2=a5->a0+a1<=a2:=by omega
theorem BR:∀ {a0 a1 a2 a3 a4:Int},a2+a3<=a1->(a2+a3<=a4->a1=a4)->a0<=a4->a0<=a1:=by omega
theorem BQ:∀ {a0 a1 a2 a3:Int},a0-a3<=a1-a2->a0<=a1-a2+a3:=fun h0=>Int.sub_right_le_iff_le_add.mp h0
theorem BP:∀ {a0 a1 a2 a3 a4 a5:Int},a5-a4<=a2-a3->a0+a1<=a5->a0+a1<=a2-a3+a4:=by omega
theorem BO:∀ {a0 a1 a2 a3 a4 a5:Int},a1<=a4-a5->a0-a5<=a2-a3->a0+a1<=a2-a3+a4:=by omega
theorem BN:∀ {a0 a1 a2 a3:Int},a0<=a2-a3+a1->a0-a1<=a2-a3:=fun h0=>Int.sub_right_le_iff_le_add.mpr h0
theorem BM:∀ {a0 a1 a2 a3 a4 a5:Int},a3+a4<=a2->(a3+a4<=a5->a2=a5)->a0+a1<=a5->a0+a1<=a2:=by omega
theorem BL:∀ {a0 a1 a2 a3:Nat},a0<a1\/a0=a1/\a2<a3+1->¬a2=a3->a0<a1\/a0=a1/\a2<a3:=by omega
theorem BK:∀ {a0 a1 a2 a3:Nat},a2<a3->a0<a1+1\/a0=a1+1/\a2<0->a0<a1\/a0=a1/\a2<a3:=by omega
theorem BJ:∀ {a0 a1 a2 a3 a4 a5 a6:Int},a0-a1<=a4-a5->a4-a5<=a6-a3->a2=a6->a0-a1<=a2-a3:=by omega
theorem BH:∀ {a0 a1 a2 a3 a4:Int},a2=a4->a0-a1<=a4-a3->a0-a1<=a2-a3:=fun h0 h1=>h0▸h1
theorem BG:∀ {a0 a1 a2 a3 a4:Int},a3+a1<=a4->a0=a3->a4<=a2->a0+a1<=a2:=by omega
theorem BF:∀ {a0 a1 a2:Int} {a3 a4:Nat},a3<0\/a3=0/\a4<0->a0+a1<=a2:=by intros;simp_all
theorem BE:∀ {a0 a1 a2:Nat},a2<=a1->a0=a2->a0+(a1-a2)=a1:=by intros;simp_all
theorem BD:∀ {a0 a1 a2 a3 a4:Int},a4+a3=-a1->a4+a2<=-a0->a0-a1<=-a2 - -a3:=by omega
theorem BC:∀ {a0:Nat},a0<=1000->a0<9223372036854775808:=fun h0=>lt_of_le_of_lt h0 (by decide)
theorem BB:∀ {a0 a1:Nat},a1<=9->a0<=a1->a0<=40:=fun h0 h1=>(Nat.le_trans h1 (Nat.le_trans h0 (by decide)))
theorem BA:∀ {a0 a1:Nat},a0<=a1->¬(↑a0:Int)>(↑a1:Int):=fun h0=>fun e=>absurd (ofNat_lt.mp e) (Nat.not_lt.mpr h0)
theorem Ka:∀ {a0:Nat},a0<=9->a0<=1000:=fun h0=>(Nat.le_trans h0 (by decide))
theorem Bz:∀ {a0 a1 a2:Nat},a1<=9->a2<=a1->a0=a2->a0<=1000:=fun h0 h1 h2=>(Nat.le_trans (le_of_eq h2) (Nat.le_trans h1 (Nat.le_trans h0 (by decide))))
theorem By:∀ {a0 a1:Nat},a0<=9->a0-a1<=1000:=fun h0=>Nat.le_trans (sub_le _ _) (Nat.le_trans h0 (by decide))
theorem Bx:∀ {a0 a1 a2:Nat},a1<=9->a2<=a1->a0=a2->a0+(a1-a2)<=1000:=by omega
theorem Bw:∀ {a0:Nat},a0<=9->a0<=50:=fun h0=>(Nat.le_trans h0 (by decide))
theorem Bv:∀ {a0 a1:Nat},a1<=9->a0<a1->a0<=50:=fun h0 h1=>(Nat.le_trans (le_succ _) (Nat.le_trans h1 (Nat.le_trans h0 (by decide))))
theorem YL:∀ {a0:Nat},0<a0->(↑a0:Int)≠0:=fun h0=>Int.natCast_ne_zero_iff_pos.mpr h0
theorem Bu:∀ {a0:Nat},a0<=9->¬(↑a0:Int)>9:=fun h0=>fun e=>absurd (ofNat_lt.mp e) (Nat.not_lt.mpr h0)
theorem Bt:∀ {a0:Nat},a0<=40->¬(↑a0:Int)>40:=fun h0=>fun e=>absurd (ofNat_lt.mp e) (Nat.not_lt.mpr h0)
theorem Bs:∀ {a0 a1 a2 a3:Int},a0-a1+(a2-a3)=a0+a2-(a1+a3):=by omega
theorem Br:∀ {a0 a1 a2 a3 a4:Int},a0-a1<=a3-a4->a0-(a1-a2)<=a3-(a4-a2):=by omega
theorem Bq:∀ {a0 a1 a2:Nat},a2<a1->a0<a2->a0<a1-1:=by omega
theorem Bp:∀ {a0 a1 a2:Nat},a0<a1->a0≠a2->¬a0<a2->a0-1<a1-1:=by omega
theorem Bo:∀ {a0 a1 a2:Nat},a0=a1-1->a1≠a2->a0<a2->¬a1<a2->a0=a1:=by omega
theorem Bn:∀ {a0 a1 a2:Nat},a0-1=a1->a0≠a2->¬a0<a2->a1<a2->a0=a1:=by omega
theorem Bm:∀ {a0 a1 a2:Nat},a0-1=a1-1->a0≠a2->a1≠a2->¬a1<a2->a0=a1:=by omega
theorem Bl:∀ {a0 a1:Nat},a0<a1->a1<=a1-1->False:=by omega
theorem Bk:∀ {a0 a1 a2 a3:Int},a3+(a0-a2)<=a1->a0-a1<=a2-a3:=by omega
theorem Bj:∀ {a0:Nat},¬a0<9->(↑a0:Int)≥9:=by omega
theorem Bi:∀ {a0:Nat},a0<9->¬(↑a0:Int)≥9:=by omega
theorem Bh:∀ {a0:Nat},¬a0<40->(↑a0:Int)≥40:=by omega
theorem Bg:∀ {a0:Nat},a0<40->¬(↑a0:Int)≥40:=by omega
theorem Bf:∀ {a0:Nat},a0<40->a0<=1000:=fun h0=>(Nat.le_trans (le_succ _) (Nat.le_trans h0 (by decide)))
theorem TG:∀ {a0:Nat},a0<40->a0+1<=1000:=fun h0=>(Nat.le_trans h0 (by decide))
theorem Be:∀ {a0 a1:Nat},a1<a0->1<=a0:=fun h0=>(Nat.le_trans (le_add_left _ _) h0)
theorem Bd:∀ {a0:Nat},a0<9->(↑a0:Int)≠9:=by omega
theorem Bc:∀ {a0:Nat},¬a0<9->a0<=9->(↑a0:Int)=9:=by omega
theorem Bb:∀ {a0:Nat},a0<40->(↑a0:Int)≠40:=by omega
theorem Ba:∀ {a0:Nat},¬a0<40->a0<=40->(↑a0:Int)=40:=by omega
theorem H9:∀ {a0:Nat},a0<9->a0+1<=1000:=fun h0=>(Nat.le_trans h0 (by decide))
theorem H8:∀ {a0:Nat},a0<46->a0<=1000:=fun h0=>(Nat.le_trans (le_succ _) (Nat.le_trans h0 (by decide)))
theorem H7:∀ {a0 a1 a2:Nat} {a3:Int},a1=a2->a3=(↑a0:Int)->a3<(↑a2:Int)->a0<a1:=by intros;simp_all
theorem H6:∀ {a0:Nat},(↑a0:Int)>1->0<(↑a0:Int):=fun h0=>Int.le_of_lt h0
theorem H4:∀ {a0 a1:Nat} {a2:Int},a2=(↑a0:Int)->a2<(↑a1:Int)->a0<a1:=by intros;simp_all
theorem TF:∀ {a0:Nat},a0<=40->a0<=1000:=fun h0=>(Nat.le_trans h0 (by decide))
theorem H3:∀ {a0 a1:Nat},a1<=40->a0<a1->a0<46:=fun h0 h1=>(Nat.le_trans h1 (Nat.le_trans h0 (by decide)))
theorem H1:∀ {a0 a1 a2:Nat},a1=a2->a0<a2+1->(↑a0:Int)<=(↑a1:Int):=by omega
theorem H0:∀ {a0:Int} {a1:Nat},a0<(↑a1:Int)->0<=a0->a0.toNat<a1:=by intros;simp_all
theorem HZ:∀ {a0:Int} {a1:Nat},-(↑a1:Int)<=a0->-a0<=(↑a1:Int):=fun h0=>Int.neg_le_of_neg_le h0
theorem HY:∀ {a0:Int} {a1:Nat},-(↑a1:Int)<=a0->¬0<=a0->(a0+(↑a1:Int)).toNat<a1:=by omega
theorem HX:∀ {a0:Nat},0<a0->-(↑a0:Int)<=-1:=by omega
theorem HW:∀ {a0:Nat},-1<(↑a0:Int):=Rat.intCast_lt_intCast.mp rfl
theorem HV:∀ {a0:Nat},0<a0->-(↑a0:Int)<=(↑a0:Int)-2:=by omega
theorem HU:∀ {a0:Nat},(↑a0:Int)-2<(↑a0:Int):=by omega
theorem HS:∀ {a0:Nat},a0<=500->a0+1<=1000:=fun h0=>lt_of_le_of_lt h0 (by decide)
theorem HR:∀ {a0 a1:Nat},a1<a0->(↑(a0-1):Int)=(↑a0:Int)+0-1:=by omega
theorem HQ:∀ {a0:Nat},(↑a0:Int)=(↑a0:Int)+0-0:=by intros;simp_all
theorem HP:∀ {a0 a1:Nat},a0+a1<=900->a0+a1<=1000:=fun h0=>(Nat.le_trans h0 (by decide))
theorem HO:∀ {a0 a1:Nat},a1+a0<=900->a0<=1000:=fun h0=>(Nat.le_trans (le_add_left _ _) (Nat.le_trans h0 (by decide)))
theorem HN:∀ {a0 a1:Nat},a0<a1->a1<=63->2*a0<=500:=by omega
theorem HM:∀ {a0 a1 a2 a3:Nat},a0=4->a2<a3->a3<=63->a1<=a2->a0+a1<=900:=by omega
theorem HL:∀ {a0:Nat},((↑a0:Int)-1).toNat=a0-1:=Int.toNat_sub _ 1
theorem HK:∀ {a0 a1:Nat},a0<1+(a1-1)->1<=a0->a0<a1:=by omega
end Mine
namespace Mine
theorem oc3 {A0 A1 A2 P:Prop} (h:((A0/\A1)/\A2)) (k:A0->A1->A2->P):P:=k h.1.1 h.1.2 h.2
theorem oc4 {A0 A1 A2 A3 P:Prop} (h:(((A0/\A1)/\A2)/\A3)) (k:A0->A1->A2->A3->P):P:=k h.1.1.1 h.1.1.2 h.1.2 h.2
theorem oc5 {A0 A1 A2 A3 A4 P:Prop} (h:((((A0/\A1)/\A2)/\A3)/\A4)) (k:A0->A1->A2->A3->A4->P):P:=k h.1.1.1.1 h.1.1.1.2 h.1.1.2 h.1.2 h.2
theorem oc6 {A0 A1 A2 A3 A4 A5 P:Prop} (h:(((((A0/\A1)/\A2)/\A3)/\A4)/\A5)) (k:A0->A1->A2->A3->A4->A5->P):P:=k h.1.1.1.1.1 h.1.1.1.1.2 h.1.1.1.2 h.1.1.2 h.1.2 h.2
theorem oc7 {A0 A1 A2 A3 A4 A5 A6 P:Prop} (h:((((((A0/\A1)/\A2)/\A3)/\A4)/\A5)/\A6)) (k:A0->A1->A2->A3->A4->A5->A6->P):P:=k h.1.1.1.1.1.1 h.1.1.1.1.1.2 h.1.1.1.1.2 h.1.1.1.2 h.1.1.2 h.1.2 h.2
theorem oc8 {A0 A1 A2 A3 A4 A5 A6 A7 P:Prop} (h:(((((((A0/\A1)/\A2)/\A3)/\A4)/\A5)/\A6)/\A7)) (k:A0->A1->A2->A3->A4->A5->A6->A7->P):P:=k h.1.1.1.1.1.1.1 h.1.1.1.1.1.1.2 h.1.1.1.1.1.2 h.1.1.1.1.2 h.1.1.1.2 h.1.1.2 h.1.2 h.2
theorem zc {A0 A1:Prop} {P:Prop} (h:A0/\A1) (k:A0->A1->P):P:=k h.1 h.2
theorem yP {A0 A1 A2:Prop} {P:Prop} (h:A0/\A1/\A2) (k:A0->A1->A2->P):P:=k h.1 h.2.1 h.2.2
theorem Kb {A0 A1 A2 A3:Prop} {P:Prop} (h:A0/\A1/\A2/\A3) (k:A0->A1->A2->A3->P):P:=k h.1 h.2.1 h.2.2.1 h.2.2.2
theorem YX {A0 A1 A2 A3 A4:Prop} {P:Prop} (h:A0/\A1/\A2/\A3/\A4) (k:A0->A1->A2->A3->A4->P):P:=k h.1 h.2.1 h.2.2.1 h.2.2.2.1 h.2.2.2.2
theorem ob11.{u0} {α0:Sort u0} {A0:α0->Prop} {P:Prop} (h:∃ x0,A0 x0) (k:∀ x0,A0 x0->P):P:=h.elim fun x0 h=>k x0 h
theorem ob12.{u0} {α0:Sort u0} {A0 A1:α0->Prop} {P:Prop} (h:∃ x0,A0 x0/\A1 x0) (k:∀ x0,A0 x0->A1 x0->P):P:=h.elim fun x0 h=>k x0 h.1 h.2
theorem ob13.{u0} {α0:Sort u0} {A0 A1 A2:α0->Prop} {P:Prop} (h:∃ x0,A0 x0/\A1 x0/\A2 x0) (k:∀ x0,A0 x0->A1 x0->A2 x0->P):P:=h.elim fun x0 h=>k x0 h.1 h.2.1 h.2.2
theorem ob14.{u0} {α0:Sort u0} {A0 A1 A2 A3:α0->Prop} {P:Prop} (h:∃ x0,A0 x0/\A1 x0/\A2 x0/\A3 x0) (k:∀ x0,A0 x0->A1 x0->A2 x0->A3 x0->P):P:=h.elim fun x0 h=>k x0 h.1 h.2.1 h.2.2.1 h.2.2.2
theorem ob15.{u0} {α0:Sort u0} {A0 A1 A2 A3 A4:α0->Prop} {P:Prop} (h:∃ x0,A0 x0/\A1 x0/\A2 x0/\A3 x0/\A4 x0) (k:∀ x0,A0 x0->A1 x0->A2 x0->A3 x0->A4 x0->P):P:=h.elim fun x0 h=>k x0 h.1 h.2.1 h.2.2.1 h.2.2.2.1 h.2.2.2.2
theorem ob21.{u0,u1} {α0:Sort u0} {α1:Sort u1} {A0:α0->α1->Prop} {P:Prop} (h:∃ x0 x1,A0 x0 x1) (k:∀ x0 x1,A0 x0 x1->P):P:=h.elim fun x0 h=>h.elim fun x1 h=>k x0 x1 h
theorem ob22.{u0,u1} {α0:Sort u0} {α1:Sort u1} {A0 A1:α0->α1->Prop} {P:Prop} (h:∃ x0 x1,A0 x0 x1/\A1 x0 x1) (k:∀ x0 x1,A0 x0 x1->A1 x0 x1->P):P:=h.elim fun x0 h=>h.elim fun x1 h=>k x0 x1 h.1 h.2
theorem ob23.{u0,u1} {α0:Sort u0} {α1:Sort u1} {A0 A1 A2:α0->α1->Prop} {P:Prop} (h:∃ x0 x1,A0 x0 x1/\A1 x0 x1/\A2 x0 x1) (k:∀ x0 x1,A0 x0 x1->A1 x0 x1->A2 x0 x1->P):P:=h.elim fun x0 h=>h.elim fun x1 h=>k x0 x1 h.1 h.2.1 h.2.2
theorem ob24.{u0,u1} {α0:Sort u0} {α1:Sort u1} {A0 A1 A2 A3:α0->α1->Prop} {P:Prop} (h:∃ x0 x1,A0 x0 x1/\A1 x0 x1/\A2 x0 x1/\A3 x0 x1) (k:∀ x0 x1,A0 x0 x1->A1 x0 x1->A2 x0 x1->A3 x0 x1->P):P:=h.elim fun x0 h=>h.elim fun x1 h=>k x0 x1 h.1 h.2.1 h.2.2.1 h.2.2.2
theorem ob25.{u0,u1} {α0:Sort u0} {α1:Sort u1} {A0 A1 A2 A3 A4:α0->α1->Prop} {P:Prop} (h:∃ x0 x1,A0 x0 x1/\A1 x0 x1/\A2 x0 x1/\A3 x0 x1/\A4 x0 x1) (k:∀ x0 x1,A0 x0 x1->A1 x0 x1->A2 x0 x1->A3 x0 x1->A4 x0 x1->P):P:=h.elim fun x0 h=>h.elim fun x1 h=>k x0 x1 h.1 h.2.1 h.2.2.1 h.2.2.2.1 h.2.2.2.2
theorem ob27.{u0,u1} {α0:Sort u0} {α1:Sort u1} {A0 A1 A2 A3 A4 A5 A6:α0->α1->Prop} {P:Prop} (h:∃ x0 x1,A0 x0 x1/\A1 x0 x1/\A2 x0 x1/\A3 x0 x1/\A4 x0 x1/\A5 x0 x1/\A6 x0 x1) (k:∀ x0 x1,A0 x0 x1->A1 x0 x1->A2 x0 x1->A3 x0 x1->A4 x0 x1->A5 x0 x1->A6 x0 x1->P):P:=h.elim fun x0 h=>h.elim fun x1 h=>k x0 x1 h.1 h.2.1 h.2.2.1 h.2.2.2.1 h.2.2.2.2.1 h.2.2.2.2.2.1 h.2.2.2.2.2.2
theorem ob28.{u0,u1} {α0:Sort u0} {α1:Sort u1} {A0 A1 A2 A3 A4 A5 A6 A7:α0->α1->Prop} {P:Prop} (h:∃ x0 x1,A0 x0 x1/\A1 x0 x1/\A2 x0 x1/\A3 x0 x1/\A4 x0 x1/\A5 x0 x1/\A6 x0 x1/\A7 x0 x1) (k:∀ x0 x1,A0 x0 x1->A1 x0 x1->A2 x0 x1->A3 x0 x1->A4 x0 x1->A5 x0 x1->A6 x0 x1->A7 x0 x1->P):P:=h.elim fun x0 h=>h.elim fun x1 h=>k x0 x1 h.1 h.2.1 h.2.2.1 h.2.2.2.1 h.2.2.2.2.1 h.2.2.2.2.2.1 h.2.2.2.2.2.2.1 h.2.2.2.2.2.2.2
theorem ob32.{u0,u1,u2} {α0:Sort u0} {α1:Sort u1} {α2:Sort u2} {A0 A1:α0->α1->α2->Prop} {P:Prop} (h:∃ x0 x1 x2,A0 x0 x1 x2/\A1 x0 x1 x2) (k:∀ x0 x1 x2,A0 x0 x1 x2->A1 x0 x1 x2->P):P:=h.elim fun x0 h=>h.elim fun x1 h=>h.elim fun x2 h=>k x0 x1 x2 h.1 h.2
theorem ob33.{u0,u1,u2} {α0:Sort u0} {α1:Sort u1} {α2:Sort u2} {A0 A1 A2:α0->α1->α2->Prop} {P:Prop} (h:∃ x0 x1 x2,A0 x0 x1 x2/\A1 x0 x1 x2/\A2 x0 x1 x2) (k:∀ x0 x1 x2,A0 x0 x1 x2->A1 x0 x1 x2->A2 x0 x1 x2->P):P:=h.elim fun x0 h=>h.elim fun x1 h=>h.elim fun x2 h=>k x0 x1 x2 h.1 h.2.1 h.2.2
theorem ob34.{u0,u1,u2} {α0:Sort u0} {α1:Sort u1} {α2:Sort u2} {A0 A1 A2 A3:α0->α1->α2->Prop} {P:Prop} (h:∃ x0 x1 x2,A0 x0 x1 x2/\A1 x0 x1 x2/\A2 x0 x1 x2/\A3 x0 x1 x2) (k:∀ x0 x1 x2,A0 x0 x1 x2->A1 x0 x1 x2->A2 x0 x1 x2->A3 x0 x1 x2->P):P:=h.elim fun x0 h=>h.elim fun x1 h=>h.elim fun x2 h=>k x0 x1 x2 h.1 h.2.1 h.2.2.1 h.2.2.2
theorem ob35.{u0,u1,u2} {α0:Sort u0} {α1:Sort u1} {α2:Sort u2} {A0 A1 A2 A3 A4:α0->α1->α2->Prop} {P:Prop} (h:∃ x0 x1 x2,A0 x0 x1 x2/\A1 x0 x1 x2/\A2 x0 x1 x2/\A3 x0 x1 x2/\A4 x0 x1 x2) (k:∀ x0 x1 x2,A0 x0 x1 x2->A1 x0 x1 x2->A2 x0 x1 x2->A3 x0 x1 x2->A4 x0 x1 x2->P):P:=h.elim fun x0 h=>h.elim fun x1 h=>h.elim fun x2 h=>k x0 x1 x2 h.1 h.2.1 h.2.2.1 h.2.2.2.1 h.2.2.2.2
theorem ob36.{u0,u1,u2} {α0:Sort u0} {α1:Sort u1} {α2:Sort u2} {A0 A1 A2 A3 A4 A5:α0->α1->α2->Prop} {P:Prop} (h:∃ x0 x1 x2,A0 x0 x1 x2/\A1 x0 x1 x2/\A2 x0 x1 x2/\A3 x0 x1 x2/\A4 x0 x1 x2/\A5 x0 x1 x2) (k:∀ x0 x1 x2,A0 x0 x1 x2->A1 x0 x1 x2->A2 x0 x1 x2->A3 x0 x1 x2->A4 x0 x1 x2->A5 x0 x1 x2->P):P:=h.elim fun x0 h=>h.elim fun x1 h=>h.elim fun x2 h=>k x0 x1 x2 h.1 h.2.1 h.2.2.1 h.2.2.2.1 h.2.2.2.2.1 h.2.2.2.2.2
theorem ob37.{u0,u1,u2} {α0:Sort u0} {α1:Sort u1} {α2:Sort u2} {A0 A1 A2 A3 A4 A5 A6:α0->α1->α2->Prop} {P:Prop} (h:∃ x0 x1 x2,A0 x0 x1 x2/\A1 x0 x1 x2/\A2 x0 x1 x2/\A3 x0 x1 x2/\A4 x0 x1 x2/\A5 x0 x1 x2/\A6 x0 x1 x2) (k:∀ x0 x1 x2,A0 x0 x1 x2->A1 x0 x1 x2->A2 x0 x1 x2->A3 x0 x1 x2->A4 x0 x1 x2->A5 x0 x1 x2->A6 x0 x1 x2->P):P:=h.elim fun x0 h=>h.elim fun x1 h=>h.elim fun x2 h=>k x0 x1 x2 h.1 h.2.1 h.2.2.1 h.2.2.2.1 h.2.2.2.2.1 h.2.2.2.2.2.1 h.2.2.2.2.2.2
theorem ob43.{u0,u1,u2,u3} {α0:Sort u0} {α1:Sort u1} {α2:Sort u2} {α3:Sort u3} {A0 A1 A2:α0->α1->α2->α3->Prop} {P:Prop} (h:∃ x0 x1 x2 x3,A0 x0 x1 x2 x3/\A1 x0 x1 x2 x3/\A2 x0 x1 x2 x3) (k:∀ x0 x1 x2 x3,A0 x0 x1 x2 x3->A1 x0 x1 x2 x3->A2 x0 x1 x2 x3->P):P:=h.elim fun x0 h=>h.elim fun x1 h=>h.elim fun x2 h=>h.elim fun x3 h=>k x0 x1 x2 x3 h.1 h.2.1 h.2.2
theorem ob44.{u0,u1,u2,u3} {α0:Sort u0} {α1:Sort u1} {α2:Sort u2} {α3:Sort u3} {A0 A1 A2 A3:α0->α1->α2->α3->Prop} {P:Prop} (h:∃ x0 x1 x2 x3,A0 x0 x1 x2 x3/\A1 x0 x1 x2 x3/\A2 x0 x1 x2 x3/\A3 x0 x1 x2 x3) (k:∀ x0 x1 x2 x3,A0 x0 x1 x2 x3->A1 x0 x1 x2 x3->A2 x0 x1 x2 x3->A3 x0 x1 x2 x3->P):P:=h.elim fun x0 h=>h.elim fun x1 h=>h.elim fun x2 h=>h.elim fun x3 h=>k x0 x1 x2 x3 h.1 h.2.1 h.2.2.1 h.2.2.2
theorem ob45.{u0,u1,u2,u3} {α0:Sort u0} {α1:Sort u1} {α2:Sort u2} {α3:Sort u3} {A0 A1 A2 A3 A4:α0->α1->α2->α3->Prop} {P:Prop} (h:∃ x0 x1 x2 x3,A0 x0 x1 x2 x3/\A1 x0 x1 x2 x3/\A2 x0 x1 x2 x3/\A3 x0 x1 x2 x3/\A4 x0 x1 x2 x3) (k:∀ x0 x1 x2 x3,A0 x0 x1 x2 x3->A1 x0 x1 x2 x3->A2 x0 x1 x2 x3->A3 x0 x1 x2 x3->A4 x0 x1 x2 x3->P):P:=h.elim fun x0 h=>h.elim fun x1 h=>h.elim fun x2 h=>h.elim fun x3 h=>k x0 x1 x2 x3 h.1 h.2.1 h.2.2.1 h.2.2.2.1 h.2.2.2.2
theorem ob48.{u0,u1,u2,u3} {α0:Sort u0} {α1:Sort u1} {α2:Sort u2} {α3:Sort u3} {A0 A1 A2 A3 A4 A5 A6 A7:α0->α1->α2->α3->Prop} {P:Prop} (h:∃ x0 x1 x2 x3,A0 x0 x1 x2 x3/\A1 x0 x1 x2 x3/\A2 x0 x1 x2 x3/\A3 x0 x1 x2 x3/\A4 x0 x1 x2 x3/\A5 x0 x1 x2 x3/\A6 x0 x1 x2 x3/\A7 x0 x1 x2 x3) (k:∀ x0 x1 x2 x3,A0 x0 x1 x2 x3->A1 x0 x1 x2 x3->A2 x0 x1 x2 x3->A3 x0 x1 x2 x3->A4 x0 x1 x2 x3->A5 x0 x1 x2 x3->A6 x0 x1 x2 x3->A7 x0 x1 x2 x3->P):P:=h.elim fun x0 h=>h.elim fun x1 h=>h.elim fun x2 h=>h.elim fun x3 h=>k x0 x1 x2 x3 h.1 h.2.1 h.2.2.1 h.2.2.2.1 h.2.2.2.2.1 h.2.2.2.2.2.1 h.2.2.2.2.2.2.1 h.2.2.2.2.2.2.2
theorem ob51.{u0,u1,u2,u3,u4} {α0:Sort u0} {α1:Sort u1} {α2:Sort u2} {α3:Sort u3} {α4:Sort u4} {A0:α0->α1->α2->α3->α4->Prop} {P:Prop} (h:∃ x0 x1 x2 x3 x4,A0 x0 x1 x2 x3 x4) (k:∀ x0 x1 x2 x3 x4,A0 x0 x1 x2 x3 x4->P):P:=h.elim fun x0 h=>h.elim fun x1 h=>h.elim fun x2 h=>h.elim fun x3 h=>h.elim fun x4 h=>k x0 x1 x2 x3 x4 h
theorem ob53.{u0,u1,u2,u3,u4} {α0:Sort u0} {α1:Sort u1} {α2:Sort u2} {α3:Sort u3} {α4:Sort u4} {A0 A1 A2:α0->α1->α2->α3->α4->Prop} {P:Prop} (h:∃ x0 x1 x2 x3 x4,A0 x0 x1 x2 x3 x4/\A1 x0 x1 x2 x3 x4/\A2 x0 x1 x2 x3 x4) (k:∀ x0 x1 x2 x3 x4,A0 x0 x1 x2 x3 x4->A1 x0 x1 x2 x3 x4->A2 x0 x1 x2 x3 x4->P):P:=h.elim fun x0 h=>h.elim fun x1 h=>h.elim fun x2 h=>h.elim fun x3 h=>h.elim fun x4 h=>k x0 x1 x2 x3 x4 h.1 h.2.1 h.2.2
theorem ob54.{u0,u1,u2,u3,u4} {α0:Sort u0} {α1:Sort u1} {α2:Sort u2} {α3:Sort u3} {α4:Sort u4} {A0 A1 A2 A3:α0->α1->α2->α3->α4->Prop} {P:Prop} (h:∃ x0 x1 x2 x3 x4,A0 x0 x1 x2 x3 x4/\A1 x0 x1 x2 x3 x4/\A2 x0 x1 x2 x3 x4/\A3 x0 x1 x2 x3 x4) (k:∀ x0 x1 x2 x3 x4,A0 x0 x1 x2 x3 x4->A1 x0 x1 x2 x3 x4->A2 x0 x1 x2 x3 x4->A3 x0 x1 x2 x3 x4->P):P:=h.elim fun x0 h=>h.elim fun x1 h=>h.elim fun x2 h=>h.elim fun x3 h=>h.elim fun x4 h=>k x0 x1 x2 x3 x4 h.1 h.2.1 h.2.2.1 h.2.2.2
theorem ob55.{u0,u1,u2,u3,u4} {α0:Sort u0} {α1:Sort u1} {α2:Sort u2} {α3:Sort u3} {α4:Sort u4} {A0 A1 A2 A3 A4:α0->α1->α2->α3->α4->Prop} {P:Prop} (h:∃ x0 x1 x2 x3 x4,A0 x0 x1 x2 x3 x4/\A1 x0 x1 x2 x3 x4/\A2 x0 x1 x2 x3 x4/\A3 x0 x1 x2 x3 x4/\A4 x0 x1 x2 x3 x4) (k:∀ x0 x1 x2 x3 x4,A0 x0 x1 x2 x3 x4->A1 x0 x1 x2 x3 x4->A2 x0 x1 x2 x3 x4->A3 x0 x1 x2 x3 x4->A4 x0 x1 x2 x3 x4->P):P:=h.elim fun x0 h=>h.elim fun x1 h=>h.elim fun x2 h=>h.elim fun x3 h=>h.elim fun x4 h=>k x0 x1 x2 x3 x4 h.1 h.2.1 h.2.2.1 h.2.2.2.1 h.2.2.2.2
theorem ob56.{u0,u1,u2,u3,u4} {α0:Sort u0} {α1:Sort u1} {α2:Sort u2} {α3:Sort u3} {α4:Sort u4} {A0 A1 A2 A3 A4 A5:α0->α1->α2->α3->α4->Prop} {P:Prop} (h:∃ x0 x1 x2 x3 x4,A0 x0 x1 x2 x3 x4/\A1 x0 x1 x2 x3 x4/\A2 x0 x1 x2 x3 x4/\A3 x0 x1 x2 x3 x4/\A4 x0 x1 x2 x3 x4/\A5 x0 x1 x2 x3 x4) (k:∀ x0 x1 x2 x3 x4,A0 x0 x1 x2 x3 x4->A1 x0 x1 x2 x3 x4->A2 x0 x1 x2 x3 x4->A3 x0 x1 x2 x3 x4->A4 x0 x1 x2 x3 x4->A5 x0 x1 x2 x3 x4->P):P:=h.elim fun x0 h=>h.elim fun x1 h=>h.elim fun x2 h=>h.elim fun x3 h=>h.elim fun x4 h=>k x0 x1 x2 x3 x4 h.1 h.2.1 h.2.2.1 h.2.2.2.1 h.2.2.2.2.1 h.2.2.2.2.2
theorem ob58.{u0,u1,u2,u3,u4} {α0:Sort u0} {α1:Sort u1} {α2:Sort u2} {α3:Sort u3} {α4:Sort u4} {A0 A1 A2 A3 A4 A5 A6 A7:α0->α1->α2->α3->α4->Prop} {P:Prop} (h:∃ x0 x1 x2 x3 x4,A0 x0 x1 x2 x3 x4/\A1 x0 x1 x2 x3 x4/\A2 x0 x1 x2 x3 x4/\A3 x0 x1 x2 x3 x4/\A4 x0 x1 x2 x3 x4/\A5 x0 x1 x2 x3 x4/\A6 x0 x1 x2 x3 x4/\A7 x0 x1 x2 x3 x4) (k:∀ x0 x1 x2 x3 x4,A0 x0 x1 x2 x3 x4->A1 x0 x1 x2 x3 x4->A2 x0 x1 x2 x3 x4->A3 x0 x1 x2 x3 x4->A4 x0 x1 x2 x3 x4->A5 x0 x1 x2 x3 x4->A6 x0 x1 x2 x3 x4->A7 x0 x1 x2 x3 x4->P):P:=h.elim fun x0 h=>h.elim fun x1 h=>h.elim fun x2 h=>h.elim fun x3 h=>h.elim fun x4 h=>k x0 x1 x2 x3 x4 h.1 h.2.1 h.2.2.1 h.2.2.2.1 h.2.2.2.2.1 h.2.2.2.2.2.1 h.2.2.2.2.2.2.1 h.2.2.2.2.2.2.2
theorem ob62.{u0,u1,u2,u3,u4,u5} {α0:Sort u0} {α1:Sort u1} {α2:Sort u2} {α3:Sort u3} {α4:Sort u4} {α5:Sort u5} {A0 A1:α0->α1->α2->α3->α4->α5->Prop} {P:Prop} (h:∃ x0 x1 x2 x3 x4 x5,A0 x0 x1 x2 x3 x4 x5/\A1 x0 x1 x2 x3 x4 x5) (k:∀ x0 x1 x2 x3 x4 x5,A0 x0 x1 x2 x3 x4 x5->A1 x0 x1 x2 x3 x4 x5->P):P:=h.elim fun x0 h=>h.elim fun x1 h=>h.elim fun x2 h=>h.elim fun x3 h=>h.elim fun x4 h=>h.elim fun x5 h=>k x0 x1 x2 x3 x4 x5 h.1 h.2
theorem ob71.{u0,u1,u2,u3,u4,u5,u6} {α0:Sort u0} {α1:Sort u1} {α2:Sort u2} {α3:Sort u3} {α4:Sort u4} {α5:Sort u5} {α6:Sort u6} {A0:α0->α1->α2->α3->α4->α5->α6->Prop} {P:Prop} (h:∃ x0 x1 x2 x3 x4 x5 x6,A0 x0 x1 x2 x3 x4 x5 x6) (k:∀ x0 x1 x2 x3 x4 x5 x6,A0 x0 x1 x2 x3 x4 x5 x6->P):P:=h.elim fun x0 h=>h.elim fun x1 h=>h.elim fun x2 h=>h.elim fun x3 h=>h.elim fun x4 h=>h.elim fun x5 h=>h.elim fun x6 h=>k x0 x1 x2 x3 x4 x5 x6 h
theorem ob72.{u0,u1,u2,u3,u4,u5,u6} {α0:Sort u0} {α1:Sort u1} {α2:Sort u2} {α3:Sort u3} {α4:Sort u4} {α5:Sort u5} {α6:Sort u6} {A0 A1:α0->α1->α2->α3->α4->α5->α6->Prop} {P:Prop} (h:∃ x0 x1 x2 x3 x4 x5 x6,A0 x0 x1 x2 x3 x4 x5 x6/\A1 x0 x1 x2 x3 x4 x5 x6) (k:∀ x0 x1 x2 x3 x4 x5 x6,A0 x0 x1 x2 x3 x4 x5 x6->A1 x0 x1 x2 x3 x4 x5 x6->P):P:=h.elim fun x0 h=>h.elim fun x1 h=>h.elim fun x2 h=>h.elim fun x3 h=>h.elim fun x4 h=>h.elim fun x5 h=>h.elim fun x6 h=>k x0 x1 x2 x3 x4 x5 x6 h.1 h.2
theorem ob74.{u0,u1,u2,u3,u4,u5,u6} {α0:Sort u0} {α1:Sort u1} {α2:Sort u2} {α3:Sort u3} {α4:Sort u4} {α5:Sort u5} {α6:Sort u6} {A0 A1 A2 A3:α0->α1->α2->α3->α4->α5->α6->Prop} {P:Prop} (h:∃ x0 x1 x2 x3 x4 x5 x6,A0 x0 x1 x2 x3 x4 x5 x6/\A1 x0 x1 x2 x3 x4 x5 x6/\A2 x0 x1 x2 x3 x4 x5 x6/\A3 x0 x1 x2 x3 x4 x5 x6) (k:∀ x0 x1 x2 x3 x4 x5 x6,A0 x0 x1 x2 x3 x4 x5 x6->A1 x0 x1 x2 x3 x4 x5 x6->A2 x0 x1 x2 x3 x4 x5 x6->A3 x0 x1 x2 x3 x4 x5 x6->P):P:=h.elim fun x0 h=>h.elim fun x1 h=>h.elim fun x2 h=>h.elim fun x3 h=>h.elim fun x4 h=>h.elim fun x5 h=>h.elim fun x6 h=>k x0 x1 x2 x3 x4 x5 x6 h.1 h.2.1 h.2.2.1 h.2.2.2
theorem ob75.{u0,u1,u2,u3,u4,u5,u6} {α0:Sort u0} {α1:Sort u1} {α2:Sort u2} {α3:Sort u3} {α4:Sort u4} {α5:Sort u5} {α6:Sort u6} {A0 A1 A2 A3 A4:α0->α1->α2->α3->α4->α5->α6->Prop} {P:Prop} (h:∃ x0 x1 x2 x3 x4 x5 x6,A0 x0 x1 x2 x3 x4 x5 x6/\A1 x0 x1 x2 x3 x4 x5 x6/\A2 x0 x1 x2 x3 x4 x5 x6/\A3 x0 x1 x2 x3 x4 x5 x6/\A4 x0 x1 x2 x3 x4 x5 x6) (k:∀ x0 x1 x2 x3 x4 x5 x6,A0 x0 x1 x2 x3 x4 x5 x6->A1 x0 x1 x2 x3 x4 x5 x6->A2 x0 x1 x2 x3 x4 x5 x6->A3 x0 x1 x2 x3 x4 x5 x6->A4 x0 x1 x2 x3 x4 x5 x6->P):P:=h.elim fun x0 h=>h.elim fun x1 h=>h.elim fun x2 h=>h.elim fun x3 h=>h.elim fun x4 h=>h.elim fun x5 h=>h.elim fun x6 h=>k x0 x1 x2 x3 x4 x5 x6 h.1 h.2.1 h.2.2.1 h.2.2.2.1 h.2.2.2.2
theorem ob78.{u0,u1,u2,u3,u4,u5,u6} {α0:Sort u0} {α1:Sort u1} {α2:Sort u2} {α3:Sort u3} {α4:Sort u4} {α5:Sort u5} {α6:Sort u6} {A0 A1 A2 A3 A4 A5 A6 A7:α0->α1->α2->α3->α4->α5->α6->Prop} {P:Prop} (h:∃ x0 x1 x2 x3 x4 x5 x6,A0 x0 x1 x2 x3 x4 x5 x6/\A1 x0 x1 x2 x3 x4 x5 x6/\A2 x0 x1 x2 x3 x4 x5 x6/\A3 x0 x1 x2 x3 x4 x5 x6/\A4 x0 x1 x2 x3 x4 x5 x6/\A5 x0 x1 x2 x3 x4 x5 x6/\A6 x0 x1 x2 x3 x4 x5 x6/\A7 x0 x1 x2 x3 x4 x5 x6) (k:∀ x0 x1 x2 x3 x4 x5 x6,A0 x0 x1 x2 x3 x4 x5 x6->A1 x0 x1 x2 x3 x4 x5 x6->A2 x0 x1 x2 x3 x4 x5 x6->A3 x0 x1 x2 x3 x4 x5 x6->A4 x0 x1 x2 x3 x4 x5 x6->A5 x0 x1 x2 x3 x4 x5 x6->A6 x0 x1 x2 x3 x4 x5 x6->A7 x0 x1 x2 x3 x4 x5 x6->P):P:=h.elim fun x0 h=>h.elim fun x1 h=>h.elim fun x2 h=>h.elim fun x3 h=>h.elim fun x4 h=>h.elim fun x5 h=>h.elim fun x6 h=>k x0 x1 x2 x3 x4 x5 x6 h.1 h.2.1 h.2.2.1 h.2.2.2.1 h.2.2.2.2.1 h.2.2.2.2.2.1 h.2.2.2.2.2.2.1 h.2.2.2.2.2.2.2
theorem no1 {α:Type} {x:α} {P:Prop} (h:none=some x):P:=nomatch h
theorem no2 {α:Type} {x:α} {P:Prop} (h:some x=none):P:=no1 h.symm
theorem no3 {P:Prop} (h:false=true):P:=(Bool.false_ne_true h).elim
theorem no4 {P:Prop} (h:true=false):P:=no3 h.symm
theorem no5 {n:Nat} {P:Prop} (h:0=n+1):P:=(Nat.succ_ne_zero n h.symm).elim
theorem no7 {α:Type} {a:α} {l:List α} {P:Prop} (h:[]=a::l):P:=(List.cons_ne_nil a l h.symm).elim
theorem no8 {α:Type} {a:α} {l:List α} {P:Prop} (h:a::l=[]):P:=no7 h.symm
theorem sj {α:Type} {a b:α} (h:some a=some b):a=b:=Option.some.inj h
theorem pj {α β:Type} {a c:α} {b d:β} (h:(a,b)=(c,d)):a=c/\b=d:=Prod.mk.inj h
theorem ad2 {a b:Bool} {P:Prop} (h:(a&&b)=true) (k:a=true->b=true->P):P:=k (and_eq_true_iff.mp h).1 (and_eq_true_iff.mp h).2
theorem ad3 {a b c:Bool} {P:Prop} (h:((a&&b)&&c)=true) (k:a=true->b=true->c=true->P):P:=ad2 h fun x y=>ad2 x fun h0 h1=>k h0 h1 y
theorem ad4 {a b c d:Bool} {P:Prop} (h:(((a&&b)&&c)&&d)=true) (k:a=true->b=true->c=true->d=true->P):P:=ad2 h fun x y=>ad3 x fun h0 h1 h2=>k h0 h1 h2 y
theorem ad5 {a b c d e:Bool} {P:Prop} (h:((((a&&b)&&c)&&d)&&e)=true) (k:a=true->b=true->c=true->d=true->e=true->P):P:=ad2 h fun x y=>ad4 x fun h0 h1 h2 h3=>k h0 h1 h2 h3 y
theorem ad6 {a b c d e f:Bool} {P:Prop} (h:(((((a&&b)&&c)&&d)&&e)&&f)=true) (k:a=true->b=true->c=true->d=true->e=true->f=true->P):P:=ad2 h fun x y=>ad5 x fun h0 h1 h2 h3 h4=>k h0 h1 h2 h3 h4 y
theorem ad7 {a b c d e f g:Bool} {P:Prop} (h:((((((a&&b)&&c)&&d)&&e)&&f)&&g)=true) (k:a=true->b=true->c=true->d=true->e=true->f=true->g=true->P):P:=ad2 h fun x y=>ad6 x fun h0 h1 h2 h3 h4 h5=>k h0 h1 h2 h3 h4 h5 y
theorem ad8 {a b c d e f g i:Bool} {P:Prop} (h:(((((((a&&b)&&c)&&d)&&e)&&f)&&g)&&i)=true) (k:a=true->b=true->c=true->d=true->e=true->f=true->g=true->i=true->P):P:=ad2 h fun x y=>ad7 x fun h0 h1 h2 h3 h4 h5 h6=>k h0 h1 h2 h3 h4 h5 h6 y
theorem bn {a:Bool} (h:(!a)=true):a=false:=not_eq_true' a |>.mp h
@[elab_as_elim] theorem deq {α:Type} {a:α} {P:α->Prop} {b:α} [Decidable (a=b)] (h:decide (a=b)=true) (k:P a):P b:=of_decide_eq_true h▸k
@[elab_as_elim] theorem eqr {α:Type} {a:α} {P:α->Prop} {b:α} (h:b=a) (k:P a):P b:=h▸k
theorem TU {k:Nat} {Q:Nat->Prop} (h:k<3) (h0:Q 0) (h1:Q 1) (h2:Q 2):Q k:=by
 cases k with
 |zero=>exact h0
 |succ k=>cases k with
  |zero=>exact h1
  |succ k=>cases k with
   |zero=>exact h2
   |succ k=>exact absurd h (Nat.not_lt.mpr (le_add_left 3 k))
end Mine
namespace Mine
open PySem (Operator UnaryOp CmpOp)
inductive Val where
 |none | bool (b:Bool) | int (i:Int) | str (s:List Nat)
 deriving DecidableEq
inductive BI where
 |len | sum | max | int | list
inductive Ty where
 |int | bool | list | tuple
inductive Me where
 |append | pop | insert
set_option genSizeOfSpec false in
set_option genInjectivity false in
inductive za where
 |const (v:Val)
 |gconst (v:Val)
 |loc (i:Nat)
 |bin (op:Operator) (a b:za)
 |un (op:UnaryOp) (a:za)
 |and (a b:za)
 |or (a b:za)
 |cmp (op:CmpOp) (a b:za)
 |cmp2 (op₁ op₂:CmpOp) (a b c:za)
 |isinst (t:Ty) (a:za)
 |call (f:Nat) (args:za)
 |bi (b:BI) (args:za)
 |meth (m:Me) (o args:za)
 |lst (es:za)
 |tup (es:za)
 |sub (o i:za)
 |slice (o lo hi:za)
 |comp (elt tgt it cond:za)
 |attr (o:za) (k:Nat)
 |mcall (f:Nat) (o args:za)
 |newT (f:Nat)
 |compp (elt:za) (i j:Nat) (a cond:za)
 |compq (elt:za) (i j:Nat) (a b:za)
 |nil
 |cons (a b:za)
 |irange (a:za)
 |irange2 (a b:za)
 |iobj (a:za)
set_option genSizeOfSpec false in
set_option genInjectivity false in
inductive zk where
 |nil
 |cons (s r:zk)
 |assign (i:Nat) (e:za)
 |asub (o i e:za)
 |aattr (o:za) (k:Nat) (e:za)
 |atup (ts:List Nat) (e:za)
 |expr (e:za)
 |ifs (c:za) (t e:zk)
 |fors (tgt it:za) (b:zk)
 |forp (y x:Nat) (c:za) (v:Val)
 |fora (y x:Nat) (e:za)
 |whiles (c:za) (b:zk)
 |ret (e:za)
 |raise (c:Nat)
 |tryx (b:zk) (hs:List (Nat × Bool × Val))
structure zr where
 np:Nat
 ns:Nat
 body:zk
noncomputable def lim:Nat:=1048576
noncomputable def wc {α:Type} (d:α) (k1:Nat->α) (k2 k3:za->α) (k4:za->za->α) (k5:Nat->za->α) (k6:Val->α) (k7:Nat->α) (k8:α) (e:za):α :=
 @za.casesOn (fun _=>α) e k6 (fun _=>d) k1 (fun _ _ _=>d) (fun _ _=>d) (fun _ _=>d) (fun _ _=>d) (fun _ _ _=>d) (fun _ _ _ _ _=>d) (fun _ _=>d) k5 (fun _ _=>d) (fun _ _ _=>d) k2 k3 (fun _ _=>d) (fun _ _ _=>d) (fun _ _ _ _=>d) (fun _ _=>d) (fun _ _ _=>d) k7 (fun _ _ _ _ _=>d) (fun _ _ _ _ _=>d) k8 k4 (fun _=>d) (fun _ _=>d) (fun _=>d)
theorem js {α:Type} {d:α} {k1:Nat->α} {k2 k3:za->α} {k4:za->za->α} {k5:Nat->za->α} {k6:Val->α} {k7:Nat->α} {k8:α} {Q:α->za->Prop} {e:za} (hd:∀ e,Q d e) (h1:∀ x,Q (k1 x) (.loc x)) (h2:∀ x,Q (k2 x) (.lst x)) (h3:∀ x,Q (k3 x) (.tup x)) (h4:∀ x y,Q (k4 x y) (.cons x y)) (h5:∀ x y,Q (k5 x y) (.call x y)) (h6:∀ x,Q (k6 x) (.const x)) (h7:∀ x,Q (k7 x) (.newT x)) (h8:Q k8 .nil):Q (wc d k1 k2 k3 k4 k5 k6 k7 k8 e) e:=by
 cases e with
 |loc x=>exact h1 x
 |lst x=>exact h2 x
 |tup x=>exact h3 x
 |cons x y=>exact h4 x y
 |call x y=>exact h5 x y
 |const x=>exact h6 x
 |newT x=>exact h7 x
 |nil=>exact h8
 | _=>exact hd _
noncomputable def nN {α:Type}:Nat->Option α:=fun _=>none
noncomputable def nE {α:Type}:za->Option α:=fun _=>none
noncomputable def nEE {α:Type}:za->za->Option α:=fun _ _=>none
noncomputable def nNE {α:Type}:Nat->za->Option α:=fun _ _=>none
noncomputable def nV {α:Type}:Val->Option α:=fun _=>none
noncomputable def zQ:za->Option Nat:=wc none some nE nE nEE nNE nV nN none
noncomputable def ul:za->Option za:=wc none nN some nE nEE nNE nV nN none
noncomputable def VJ:za->Option za:=wc none nN nE some nEE nNE nV nN none
noncomputable def Vq:za->Option (za × za):=wc none nN nE nE (fun a b=>some (a,b)) nNE nV nN none
noncomputable def ZP:za->Option (Nat × za):=wc none nN nE nE nEE (fun f a=>some (f,a)) nV nN none
noncomputable def QH:za->Option Val:=wc none nN nE nE nEE nNE some nN none
noncomputable def Wj:za->Option Nat:=wc none nN nE nE nEE nNE nV some none
noncomputable def uv:za->Bool:=wc false (fun _=>false) (fun _=>false) (fun _=>false) (fun _ _=>false) (fun _ _=>false) (fun _=>false) (fun _=>false) true
noncomputable def Ql (e:za):Option za:=(Vq e).bind fun p=>cond (uv p.2) (some p.1) none
noncomputable def VI (e:za):Option (za × za):=(Vq e).bind fun p=>(Ql p.2).map fun b=>(p.1,b)
theorem zT {α:Type} {x:α} {P:Prop} (h:none=some x):P:=nomatch h
theorem yb {e:za} {x:Nat} (h:zQ e=some x):e=.loc x:=js (Q:=fun r e=>r=some x->e=.loc x) (fun _=>zT) (fun _ h=>congrArg _ (Option.some.inj h)) (fun _=>zT) (fun _=>zT) (fun _ _=>zT) (fun _ _=>zT) (fun _=>zT) (fun _=>zT) zT h
theorem Kh {e es:za} (h:ul e=some es):e=.lst es:=js (Q:=fun r e=>r=some es->e=.lst es) (fun _=>zT) (fun _=>zT) (fun _ h=>congrArg _ (Option.some.inj h)) (fun _=>zT) (fun _ _=>zT) (fun _ _=>zT) (fun _=>zT) (fun _=>zT) zT h
theorem JN {e es:za} (h:VJ e=some es):e=.tup es:=js (Q:=fun r e=>r=some es->e=.tup es) (fun _=>zT) (fun _=>zT) (fun _=>zT) (fun _ h=>congrArg _ (Option.some.inj h)) (fun _ _=>zT) (fun _ _=>zT) (fun _=>zT) (fun _=>zT) zT h
theorem QI {e:za} {p:za × za} (h:Vq e=some p):e=.cons p.1 p.2:=js (Q:=fun r e=>r=some p->e=.cons p.1 p.2) (fun _=>zT) (fun _=>zT) (fun _=>zT) (fun _=>zT) (fun _ _ h=>Option.some.inj h▸rfl) (fun _ _=>zT) (fun _=>zT) (fun _=>zT) zT h
theorem XA {e:za} {p:Nat × za} (h:ZP e=some p):e=.call p.1 p.2:=js (Q:=fun r e=>r=some p->e=.call p.1 p.2) (fun _=>zT) (fun _=>zT) (fun _=>zT) (fun _=>zT) (fun _ _=>zT) (fun _ _ h=>Option.some.inj h▸rfl) (fun _=>zT) (fun _=>zT) zT h
theorem uL {e:za} {v:Val} (h:QH e=some v):e=.const v:=js (Q:=fun r e=>r=some v->e=.const v) (fun _=>zT) (fun _=>zT) (fun _=>zT) (fun _=>zT) (fun _ _=>zT) (fun _ _=>zT) (fun _ h=>congrArg _ (Option.some.inj h)) (fun _=>zT) zT h
theorem Y4 {e:za} {f:Nat} (h:Wj e=some f):e=.newT f:=js (Q:=fun r e=>r=some f->e=.newT f) (fun _=>zT) (fun _=>zT) (fun _=>zT) (fun _=>zT) (fun _ _=>zT) (fun _ _=>zT) (fun _=>zT) (fun _ h=>congrArg _ (Option.some.inj h)) zT h
theorem Xh {e:za} (h:uv e=true):e=.nil:=js (Q:=fun r e=>r=true->e=.nil) (fun _=>no3) (fun _=>no3) (fun _=>no3) (fun _=>no3) (fun _ _=>no3) (fun _ _=>no3) (fun _=>no3) (fun _=>no3) (fun _=>rfl) h
theorem J2 {e a:za} (h:Ql e=some a):e=.cons a .nil:=by
 obtain ⟨p,h1,h2⟩:=bind_eq_some_iff.mp h
 rw [QI h1]
 cases z:uv p.2 with
 |true=>rw [z] at h2;rw [Xh z,Option.some.inj h2]
 |false=>rw [z] at h2;cases h2
theorem xR {e:za} {p:za × za} (h:VI e=some p):e=.cons p.1 (.cons p.2 .nil):=by
 obtain ⟨q,h1,h2⟩:=bind_eq_some_iff.mp h
 obtain ⟨b,h3,h4⟩:=map_eq_some_iff.mp h2
 rw [QI h1,J2 h3,<- h4]
noncomputable def Gf:Val->Option Bool
 | .none=>some false
 | .bool b=>some b
 | .int i=>some (i != 0)
 | .str _=>none
noncomputable def eqP (v w:Val):Option Bool:=match v with
 | .none=>(match w with | .none=>some true | .bool _=>some false | .int _=>some false | .str _=>some false)
 | .bool a=>(match w with | .bool b=>some (a==b) | .int b=>some ((if a then 1 else 0)==b) | .none=>some false | .str _=>some false)
 | .int a=>(match w with | .int b=>some (a==b) | .bool b=>some (a==(if b then 1 else 0)) | .none=>some false | .str _=>some false)
 | .str a=>(match w with | .str b=>some (a==b) | .none=>some false | .bool _=>some false | .int _=>some false)
noncomputable def J8 {α:Type} (v:Val) (e:α) (f:Int->α):α:=match v with
 | .int a=>f a
 | .none=>e | .bool _=>e | .str _=>e
noncomputable def isNone:Val->Bool
 | .none=>true
 | .bool _=>false
 | .int _=>false
 | .str _=>false
noncomputable def xa (a b:Int):Bool:=decide (a.natAbs<9223372036854775808)||decide (b.natAbs<9223372036854775808)
noncomputable def isS (t:Ty) (v:Val):Bool:=match v with
 | .none=>false
 | .bool _=>(match t with | .int=>true | .bool=>true | .list=>false | .tuple=>false)
 | .int _=>(match t with | .int=>true | .bool=>false | .list=>false | .tuple=>false)
 | .str _=>false
noncomputable def yX (i:Int) (n:Nat):Option Nat :=
 if 0<=i then (if i<n then some i.toNat else none)
 else if -i<=n then some (i+n).toNat else none
noncomputable def T5 (v:Val) (d:Nat) (n:Nat):Option Nat:=match v with
 | .none=>some d
 | .int i=>some (max 0 (min (if i<0 then i+n else i) n)).toNat
 | .bool _=>none
 | .str _=>none
noncomputable def jW (a b:Int):Bool:=decide (-lim<=a)&&decide (a<=lim)&&decide (-lim<=b)&&decide (b<=lim)&&decide (b-a<=lim)
noncomputable def qw (c:Nat):List (Nat × Bool × Val)->Option Val
 | []=>none
 |h::r=>if h.1=c\/h.1=0 then some h.2.2 else qw c r
inductive K where
 |lst | ro | tup | inst
inductive Tr where
 |sc (v:Val) | nd (k:K) (ts:List Tr)
noncomputable def K.seq:K->Option Bool
 | .lst=>some true
 | .ro=>some true
 | .tup=>some false
 | .inst=>none
noncomputable abbrev VS:=List (Option Tr)
inductive Ex (α:Type) where
 |ok (a:α) | exc (c:Nat) | stuck
inductive VR (α:Type) where
 |ok (a:α) (ρ:VS) | exc (c:Nat) (ρ:VS) | stuck
noncomputable def Ex.bind {α β:Type} (r:Ex α) (f:α->Ex β):Ex β:=match r with
 | .ok a=>f a
 | .exc c=>.exc c
 | .stuck=>.stuck
noncomputable def VR.bind {α β:Type} (r:VR α) (f:α->VS->VR β):VR β:=match r with
 | .ok a ρ=>f a ρ
 | .exc c ρ=>.exc c ρ
 | .stuck=>.stuck
noncomputable def Ex.on {α:Type} (r:Ex α) (ρ:VS):VR α:=match r with
 | .ok a=>.ok a ρ
 | .exc c=>.exc c ρ
 | .stuck=>.stuck
noncomputable def VR.opt {α β:Type} (o:Option α) (f:α->VR β):VR β:=match o with
 |some a=>f a
 |none=>.stuck
noncomputable def Ex.opt {α:Type} (o:Option α):Ex α:=match o with
 |some a=>.ok a
 |none=>.stuck
inductive Sh where
 |i | b | u | L (s:Sh) | T | D
 deriving DecidableEq
noncomputable def Y8:List Nat->Bool
 | []=>true
 |k::p=>(Nat.beq k 2||Nat.beq k 3)&&p.isEmpty
noncomputable def Y9:List Nat->Bool
 | []=>true
 |k::p=>match k with
  | 0=>(match p with | []=>true | _::q=>q.isEmpty)
  | 1=>p.isEmpty
  | _=>false
noncomputable def Sh.mem:Sh->List Nat->Bool
 | .i,_=>false
 | .b,_=>true
 | .u,_=>true
 | .L s,p=>(match p with | []=>true | _::p=>s.mem p)
 | .T,p=>Y8 p
 | .D,p=>Y9 p
noncomputable def Sh.isI:Sh->Bool
 | .i=>true
 | _=>false
noncomputable def Sh.isB:Sh->Bool
 | .b=>true
 | _=>false
noncomputable def isC (e:za) (k:Int):Bool:=match QH e with
 |some v=>J8 v false fun j=>decide (j=k)
 |none=>false
noncomputable def Sh.el (s:Sh) (e:za):Sh:=match s with
 | .i=>.i
 | .b=>.b
 | .u=>.u
 | .L s=>cond s.isB .u s
 | .T=>.u
 | .D=>cond (isC e 0) (.L (.L .i)) (cond (isC e 1) (.L .i) .u)
noncomputable def Sh.fl (s:Sh) (k:Nat):Sh:=match s with
 | .i=>.i
 | .b=>.b
 | .u=>.u
 | .L _=>.u
 | .T=>cond (Nat.beq k 2) (.L .i) .i
 | .D=>.u
noncomputable def Sh.own:Sh->Bool
 | .i=>false
 | .b=>false
 | .u=>false
 | .L _=>true
 | .T=>true
 | .D=>true
noncomputable def Sh.flat:Sh->Bool
 | .i=>true
 | .L s=>s.isI
 | _=>false
noncomputable def Sh.jn (s t:Sh):Sh:=cond (s.isI&&t.isI) .i .u
noncomputable def Sh.cov (s t:Sh):Bool:=match s with
 | .i=>true
 | .b=>(match t with | .b=>true | .u=>true | _=>false)
 | _=>(match t with | .u=>true | _=>false)
noncomputable def Tr.isSc:Tr->Bool
 | .sc _=>true
 | .nd _ _=>false
noncomputable def zM (s:Sh) (t:Tr):Bool:=s.isI||t.isSc
noncomputable def wL (s:Sh) (ts:List Tr):Bool:=s.flat||ts.all Tr.isSc
section
variable (sh:List Sh)
noncomputable def cls:za->Sh
 | .loc x=>sh.getD x .i
 | .sub o i=>(cls o).el i
 | .attr o k=>(cls o).fl k
 | .and a b=>(cls a).jn (cls b)
 | .or a b=>(cls a).jn (cls b)
 | .lst es=>(cls es).jn .i
 | .tup es=>(cls es).jn .i
 | .cons a b=>(cls a).jn (cls b)
 | .iobj a=>(cls a).el .nil
 | _=>.i
noncomputable def jQ:za->List Sh
 | .cons a b=>cls sh a::jQ b
 | _=>[]
end
noncomputable def mkL (ts:List Tr):Ex Tr:=if ts.length<=lim then .ok (.nd .lst ts) else .stuck
noncomputable def tSc {α:Type} (a:Tr) (e:α) (f:Val->α):α:=match a with
 | .sc v=>f v
 | .nd _ _=>e
noncomputable def km {α:Type} (a:Tr) (e:α) (f:Int->α):α:=tSc a e fun v=>J8 v e f
noncomputable def zd (t:Tr):Option Bool:=match t with
 | .sc v=>Gf v
 | .nd k ts=>(match k with | .lst=>some (!ts.isEmpty) | .ro=>some (!ts.isEmpty) | .tup=>none | .inst=>none)
noncomputable def JR (f:Tr->Tr->Option Bool):List Tr->List Tr->Option Bool
 |x::xs,y::ys=>(f x y).bind fun b=>(JR f xs ys).map fun c=>b&&c
 | _,_=>some true
noncomputable def tEq:Nat->Tr->Tr->Option Bool
 | 0,t,u=>(match t with | .sc v=>(match u with | .sc w=>eqP v w | .nd _ _=>none) | .nd _ _=>none)
 |n+1,t,u=>(match t with
  | .sc v=>(match u with | .sc w=>eqP v w | .nd k _=>k.seq.map fun _=>false)
  | .nd k xs=>(match u with
   | .sc _=>k.seq.map fun _=>false
   | .nd l ys=>k.seq.bind fun a=>l.seq.bind fun b=>if a=b then (if xs.length=ys.length then JR (tEq n) xs ys else if a then some false else none) else some false))
noncomputable def Qg (t:Tr):Bool:=tSc t false isNone
noncomputable def VO (op:Int->Int->Bool) (a b:Tr):Option Bool:=km a none fun x=>km b none fun y=>some (op x y)
noncomputable def ym (op:CmpOp) (a b:Tr):Option Bool:=match op with
 | .Eq=>tEq 8 a b
 | .NotEq=>(tEq 8 a b).map (!·)
 | .Is=>cond (Qg b) (some (Qg a)) none
 | .IsNot=>none
 | .In=>none
 | .NotIn=>none
 | .Lt=>VO (fun x y=>decide (x<y)) a b
 | .LtE=>VO (fun x y=>decide (x<=y)) a b
 | .Gt=>VO (fun x y=>decide (x>y)) a b
 | .GtE=>VO (fun x y=>decide (x≥y)) a b
noncomputable def scI (op:Operator) (a b:Int):Ex Tr:=match op with
 | .Add=>.ok (.sc (.int (a+b)))
 | .Sub=>.ok (.sc (.int (a-b)))
 | .Mult=>if xa a b then .ok (.sc (.int (a*b))) else .stuck
 | .FloorDiv=>if 0<b/\b<1073741824 then .ok (.sc (.int (a / b))) else .stuck
 | .Mod=>if 0<b then .ok (.sc (.int (a%b))) else .stuck
 | _=>.stuck
noncomputable def AM (s1 s2:Sh) (xs ys:List Tr):Ex Tr:=cond (wL s1 xs&&wL s2 ys) (mkL (xs++ys)) .stuck
noncomputable def vS {α:Type} (a:Tr) (f:List Tr->Ex α):Ex α:=match a with
 | .nd k ts=>(match k with | .lst=>f ts | .ro=>.stuck | .tup=>.stuck | .inst=>.stuck)
 | .sc _=>.stuck
noncomputable def AI (s1:Sh) (xs:List Tr) (n:Int):Ex Tr:=if n<=lim/\-lim<=n then cond (wL s1 xs) (mkL (List.replicate n.toNat xs).flatten) .stuck else .stuck
noncomputable def X7 (s1 s2:Sh) (op:Operator) (a b:Tr):Ex Tr:=match a with
 | .sc v=>J8 v .stuck fun x=>km b .stuck fun y=>scI op x y
 | .nd k xs=>(match k with
  | .lst=>(match b with
   | .sc w=>J8 w .stuck fun n=>(match op with | .Mult=>AI s1 xs n | _=>.stuck)
   | .nd l ys=>(match l with | .lst=>(match op with | .Add=>AM s1 s2 xs ys | _=>.stuck) | .ro=>.stuck | .tup=>.stuck | .inst=>.stuck))
  | .ro=>.stuck | .tup=>.stuck | .inst=>.stuck)
noncomputable def xz (t:Tr):Ex Tr:=match zd t with | some b=>.ok (.sc (.bool (!b))) | none=>.stuck
noncomputable def tUn (op:UnaryOp) (a:Tr):Ex Tr:=match op with
 | .Not=>xz a
 | .USub=>km a .stuck fun x=>.ok (.sc (.int (-x)))
 | _=>.stuck
noncomputable def tIs (t:Ty) (a:Tr):Option Bool:=match a with
 | .sc v=>some (isS t v)
 | .nd k _=>k.seq.map fun l=>match t with | .list=>l | .tuple=>!l | .int=>false | .bool=>false
noncomputable def xd:List Tr->Option (List Int)
 | []=>some []
 |t::r=>km t none fun i=>(xd r).map (i::·)
noncomputable def AJ (a:Tr):Ex Tr:=match a with
 | .sc _=>.stuck
 | .nd k ts=>(match k.seq with | some _=>.ok (.sc (.int ts.length)) | none=>.stuck)
noncomputable def Hs (s:Sh) (b:BI) (a:Tr):Ex Tr:=match b with
 | .len=>AJ a
 | .sum=>vS a fun ts=>(match xd ts with | some ns=>.ok (.sc (.int ns.sum)) | none=>.stuck)
 | .list=>vS a fun ts=>cond (wL s ts) (mkL ts) .stuck
 | .int=>tSc a .stuck fun v=>(match v with | .bool b=>.ok (.sc (.int (if b then 1 else 0))) | .none=>.stuck | .int _=>.stuck | .str _=>.stuck)
 | .max=>.stuck
noncomputable def Hr (b:BI) (t u:Tr):Ex Tr:=match b with
 | .max=>km t .stuck fun x=>km u .stuck fun y=>.ok (.sc (.int (if y>x then y else x)))
 | .len=>.stuck | .sum=>.stuck | .list=>.stuck | .int=>.stuck
noncomputable def tBi (cs:List Sh) (b:BI) (ts:List Tr):Ex Tr:=match ts with
 | []=>.stuck
 |t::r=>(match r with
  | []=>Hs (cs.headD .u) b t
  |u::r=>(match r with | []=>Hr b t u | _::_=>.stuck))
noncomputable def AK (ts:List Tr) (i:Tr):Option Tr:=km i none fun j=>(yX j ts.length).bind fun j=>ts[j]?
noncomputable def vz (a i:Tr):Option Tr:=match a with
 | .nd k ts=>k.seq.bind fun _=>AK ts i
 | .sc _=>none
noncomputable def KF (t:Tr) (d n:Nat):Option Nat:=tSc t none fun v=>T5 v d n
noncomputable def X4 (s:Sh) (a lo hi:Tr):Ex Tr:=vS a fun ts=>match KF lo 0 ts.length with
 |some x=>(match KF hi ts.length ts.length with | some y=>cond (wL s ts) (mkL ((ts.take y).drop x)) .stuck | none=>.stuck)
 |none=>.stuck
noncomputable def JS (a:Tr) (k:Nat):Option Tr:=match a with
 | .nd l ts=>(match l with | .inst=>ts[k]? | .lst=>none | .ro=>none | .tup=>none)
 | .sc _=>none
noncomputable def W5:List Tr->Option Tr
 | []=>some (.sc .none)
 |t::r=>(match r with | []=>some t | _::_=>none)
noncomputable def vd (t:Tr):Bool:=match t with
 | .nd k _=>(match k with | .inst=>true | .lst=>false | .ro=>false | .tup=>false)
 | .sc _=>false
noncomputable def yh (a:Int):Nat->List Tr
 | 0=>[]
 |n+1=>.sc (.int a)::yh (a+1) n
noncomputable def ku (a b:Tr):Ex (List Tr):=km a .stuck fun n=>km b .stuck fun m=>if jW n m then .ok (yh n (m-n).toNat) else .stuck
noncomputable def Gh (a:Tr):Ex (List Tr):=match a with
 | .nd k ts=>(match k with | .lst=>.ok ts | .ro=>.ok ts | .tup=>.stuck | .inst=>.stuck)
 | .sc _=>.stuck
noncomputable def TB (ts:List Tr):Option (Tr × Tr):=match ts with
 | []=>none
 |u::q=>(match q with
  | []=>none
  |w::z=>(match z with | []=>some (u,w) | _::_=>none))
noncomputable def Tp (t:Tr):Option (Tr × Tr):=match t with
 | .nd k ts=>(match k with | .tup=>TB ts | .lst=>none | .ro=>none | .inst=>none)
 | .sc _=>none
noncomputable def jy:List Tr->Option (List (Tr × Tr))
 | []=>some []
 |t::r=>(Tp t).bind fun p=>(jy r).map (p::·)
theorem Yz {ts:List Tr} {p:Tr × Tr} (h:TB ts=some p):ts=[p.1,p.2]:=by
 cases ts with
 |nil=>cases h
 |cons u q=>cases q with
  |nil=>cases h
  |cons w z=>cases z with
   |nil=>cases h;rfl
   |cons=>cases h
theorem X5 {t:Tr} {p:Tr × Tr} (h:Tp t=some p):t=.nd .tup [p.1,p.2]:=by
 cases t with
 |sc=>cases h
 |nd k ts=>cases k with
  |tup=>exact congrArg (Tr.nd .tup) (Yz h)
  | _=>cases h
noncomputable def uZ:List Tr->List Tr->List (Tr × Tr)
 |x::xs,y::ys=>(x,y)::uZ xs ys
 | _,_=>[]
noncomputable def yl {α:Type} (s:Sh) (f:α->Ex (Option Tr)):List α->Ex (List Tr)
 | []=>.ok []
 |x::xs=>(f x).bind fun o=>match o with
  |some r=>cond (zM s r) ((yl s f xs).bind fun rs=>.ok (r::rs)) .stuck
  |none=>yl s f xs
noncomputable def yx (i:Nat) (ρ:VS):Ex Tr:=match ρ[i]? with
 |some o=>(match o with | some t=>.ok t | none=>.stuck)
 |none=>.stuck
noncomputable def yW (cond elt:VS->Ex Tr) (ρ:VS):Ex (Option Tr):=(cond ρ).bind fun c=>(Ex.opt (zd c)).bind fun b=>if b then (elt ρ).bind fun r=>.ok (some r) else .ok none
structure Sg where
 ps:List Sh
 ls:List Sh
 rs:Sh
 rk:Nat
noncomputable def Sg.sh (g:Sg):List Sh:=g.ps++g.ls
noncomputable def j8:List Sh->List Sh->List Tr->Bool
 |ps,c::cs,ts=>(match ts with | t::ts=>(match ps.headD .i with | .i=>zM c t | .b=>true | _=>false)&&j8 ps.tail cs ts | []=>false)
 | _,[],ts=>ts.isEmpty
noncomputable abbrev VC:=Nat->List Tr->VR Tr
noncomputable def Zt (r:VR Tr):Ex Tr:=match r with
 | .ok t _=>.ok t
 | .exc c _=>.exc c
 | .stuck=>.stuck
structure Z4 where
 E:VS->Ex Tr
 Es:VS->Ex (List Tr)
 I:VS->Ex (List Tr)
noncomputable def vdE (E:VS->Ex Tr):Z4:=⟨E,fun _=>.stuck,fun _=>.stuck⟩
noncomputable def vdS (Es:VS->Ex (List Tr)):Z4:=⟨fun _=>.stuck,Es,fun _=>.stuck⟩
noncomputable def vdI (I:VS->Ex (List Tr)):Z4:=⟨fun _=>.stuck,fun _=>.stuck,I⟩
noncomputable def vdN:Z4:=⟨fun _=>.stuck,fun _=>.stuck,fun _=>.stuck⟩
noncomputable def ZJ (v:Val):Ex Tr:=.ok (.sc v)
section
variable (G:Nat->Sg) (sh:List Sh) (C:VC)
noncomputable def Yx (f:Nat) (cs:List Sh) (ts:List Tr):Ex Tr:=cond (j8 (G f).ps cs ts&&!ts.isEmpty) (Zt (C f ts)) .stuck
noncomputable def zK:za->Z4
 | .const v=>vdE fun _=>ZJ v
 | .gconst v=>vdE fun _=>ZJ v
 | .loc i=>vdE (yx i)
 | .bin op a b=>vdE fun ρ=>((zK a).E ρ).bind fun x=>((zK b).E ρ).bind fun y=>X7 (cls sh a) (cls sh b) op x y
 | .un op a=>vdE fun ρ=>((zK a).E ρ).bind fun x=>tUn op x
 | .and a b=>vdE fun ρ=>((zK a).E ρ).bind fun x=>(Ex.opt (zd x)).bind fun t=>if t then (zK b).E ρ else .ok x
 | .or a b=>vdE fun ρ=>((zK a).E ρ).bind fun x=>(Ex.opt (zd x)).bind fun t=>if t then .ok x else (zK b).E ρ
 | .cmp op a b=>vdE fun ρ=>((zK a).E ρ).bind fun x=>((zK b).E ρ).bind fun y=>(Ex.opt (ym op x y)).bind fun t=>.ok (.sc (.bool t))
 | .cmp2 o1 o2 a b c=>vdE fun ρ=>((zK a).E ρ).bind fun x=>((zK b).E ρ).bind fun y=>(Ex.opt (ym o1 x y)).bind fun t =>
   if t then ((zK c).E ρ).bind fun z=>(Ex.opt (ym o2 y z)).bind fun t=>.ok (.sc (.bool t)) else .ok (.sc (.bool false))
 | .isinst t a=>vdE fun ρ=>((zK a).E ρ).bind fun x=>(Ex.opt (tIs t x)).bind fun b=>.ok (.sc (.bool b))
 | .call f args=>vdE fun ρ=>((zK args).Es ρ).bind fun ts=>Yx G C f (jQ sh args) ts
 | .mcall f o args=>vdE fun ρ=>((zK o).E ρ).bind fun x=>cond (vd x) (((zK args).Es ρ).bind fun ts=>Yx G C f (cls sh o::jQ sh args) (x::ts)) .stuck
 | .bi b args=>vdE fun ρ=>((zK args).Es ρ).bind fun ts=>tBi (jQ sh args) b ts
 | .lst es=>vdE fun ρ=>((zK es).Es ρ).bind mkL
 | .tup es=>vdE fun ρ=>((zK es).Es ρ).bind fun ts=>if ts.length<=lim then .ok (.nd .tup ts) else .stuck
 | .sub o i=>vdE fun ρ=>((zK o).E ρ).bind fun x=>((zK i).E ρ).bind fun y=>Ex.opt (vz x y)
 | .slice o lo hi=>vdE fun ρ=>((zK o).E ρ).bind fun x=>(((zK lo).Es ρ).bind fun a=>Ex.opt (W5 a)).bind fun a=>(((zK hi).Es ρ).bind fun b=>Ex.opt (W5 b)).bind fun b=>X4 (cls sh o) x a b
 | .attr o k=>vdE fun ρ=>((zK o).E ρ).bind fun x=>Ex.opt (JS x k)
 | .comp elt tgt it c=>vdE fun ρ=>(match zQ tgt with
  |some y=>cond ((cls sh it).cov (sh.getD y .i)) (((zK it).I ρ).bind fun ts=>(yl (cls sh elt) (fun x=>yW (zK c).E (zK elt).E (ρ.set y (some x))) ts).bind mkL) .stuck
  |none=>.stuck)
 | .compp elt i j a c=>vdE fun ρ=>cond (((cls sh a).el .nil).isI&&(sh.getD i .i).isI&&(sh.getD j .i).isI) ((((zK a).E ρ).bind fun x=>vS x fun ts=>(Ex.opt (jy ts)).bind fun ps =>
   yl (cls sh elt) (fun p=>yW (zK c).E (zK elt).E ((ρ.set i (some p.1)).set j (some p.2))) ps).bind mkL) .stuck
 | .compq elt i j a b=>vdE fun ρ=>cond (((cls sh a).el .nil).cov (sh.getD i .i)&&((cls sh b).el .nil).cov (sh.getD j .i)) ((((zK a).E ρ).bind fun x=>((zK b).E ρ).bind fun y=>vS x fun xs=>vS y fun ys =>
   yl (cls sh elt) (fun p=>yW (fun _=>.ok (.sc (.bool true))) (zK elt).E ((ρ.set i (some p.1)).set j (some p.2))) (uZ xs ys)).bind mkL) .stuck
 | .nil=>vdS fun _=>.ok []
 | .cons a b=>vdS fun ρ=>((zK a).E ρ).bind fun x=>((zK b).Es ρ).bind fun xs=>.ok (x::xs)
 | .irange a=>vdI fun ρ=>((zK a).E ρ).bind fun x=>ku (.sc (.int 0)) x
 | .irange2 a b=>vdI fun ρ=>((zK a).E ρ).bind fun x=>((zK b).E ρ).bind fun y=>ku x y
 | .iobj a=>vdI fun ρ=>((zK a).E ρ).bind Gh
 | _=>vdN
noncomputable abbrev vE (e:za):=(zK G sh C e).E
noncomputable def Km:List Nat->Tr->Option Tr
 | [],t=>some t
 |j::q,t=>(match t with | .nd _ ts=>ts[j]?.bind (Km q) | .sc _=>none)
noncomputable def vV:List Nat->Tr->Tr->Tr
 | [],u,_=>u
 |j::q,u,t=>(match t with | .nd k ts=>.nd k (ts.modify j (vV q u)) | .sc v=>.sc v)
noncomputable def Qc (t y:Tr):Option Nat:=match t with
 | .nd k ts=>k.seq.bind fun _=>km y none fun j=>yX j ts.length
 | .sc _=>none
noncomputable def vP (o:za) (ρ:VS):Ex (Nat × List Nat):=match o with
 | .loc x=>(yx x ρ).bind fun _=>.ok (x,[])
 | .attr o k=>(Ex.opt (zQ o)).bind fun x=>(yx x ρ).bind fun t=>(Ex.opt (JS t k)).bind fun _=>.ok (x,[k])
 | .sub o i=>(Ex.opt (zQ o)).bind fun x=>(yx x ρ).bind fun t=>(vE G sh C i ρ).bind fun y=>(Ex.opt (Qc t y)).bind fun j=>.ok (x,[j])
 | _=>.stuck
noncomputable def Sh.leaf:Sh->List Nat->Bool
 | .L s,q=>(match q with | []=>s.isI | _::q=>s.leaf q)
 | .T,q=>(match q with | []=>false | k::q=>Nat.beq k 2&&q.isEmpty)
 | .D,q=>(match q with | []=>false | k::q=>(match k with | 0=>(match q with | []=>false | _::q=>q.isEmpty) | 1=>q.isEmpty | _=>false))
 | _,_=>false
noncomputable def Jk (t:Tr):Option (List Tr):=match t with
 | .nd k ts=>(match k with | .lst=>some ts | .ro=>none | .tup=>none | .inst=>none)
 | .sc _=>none
noncomputable def yB (xq:Nat × List Nat) (ρ:VS):Option (List Tr):=cond ((sh.getD xq.1 .i).leaf xq.2) (ρ[xq.1]?.bind fun o=>o.bind fun t=>(Km xq.2 t).bind Jk) none
noncomputable def qE (xq:Nat × List Nat) (u:Tr) (ρ:VS):VS:=ρ.modify xq.1 (Option.map (vV xq.2 u))
noncomputable def Ab (m:Me) (ts:List Tr) (as:List Tr):Option (Tr × List Tr):=match m with
 | .append=>(match as with | []=>none | t::r=>(match r with | []=>if ts.length<lim then some (.sc .none,ts++[t]) else none | _::_=>none))
 | .pop=>(match as with
  | []=>ts.getLast?.map fun t=>(t,ts.dropLast)
  |k::r=>(match r with
   | []=>km k none fun k=>(yX k ts.length).bind fun j=>ts[j]?.map fun t=>(t,ts.eraseIdx j)
   | _::_=>none))
 | .insert=>(match as with
  | []=>none
  |k::r=>(match r with
   | []=>none
   |t::r=>(match r with
    | []=>km k none fun k=>if 0<=k/\k<=ts.length/\ts.length<lim then some (.sc .none,ts.take k.toNat++t::ts.drop k.toNat) else none
    | _::_=>none)))
noncomputable def xY:List Sh->List Tr->Bool
 |c::cs,ts=>(match ts with | t::ts=>zM c t&&xY cs ts | []=>false)
 | [],ts=>ts.isEmpty
noncomputable def W9 (m:Me) (ts:List Tr) (cs:List Sh) (as:List Tr):Option (Tr × List Tr):=cond (xY cs as) (Ab m ts as) none
noncomputable def K3 (s:Sh) (ts:List Tr) (k t:Tr):Option (List Tr):=cond (zM s t) (km k none fun k=>if 0<=k/\k<ts.length then some (ts.set k.toNat t) else none) none
noncomputable def Zs (s:Sh) (x k:Nat) (t:Tr) (ρ:VS):Option (List Tr):=cond (zM s t) (ρ[x]?.bind fun o=>o.bind fun u=>match u with
 | .nd l ts=>(match l with | .inst=>if ts.length<=3 then (if k<ts.length then some (ts.set k t) else if k=ts.length then some (ts++[t]) else none) else none | .lst=>none | .ro=>none | .tup=>none)
 | .sc _=>none) none
noncomputable def Wq (e:za):Bool:=match ul e with | some es=>uv es | none=>false
noncomputable def qL:za->List za
 | .cons a b=>a::qL b
 | _=>[]
noncomputable def ioP (ps:List Sh) (es:List za):List (Nat × Nat):=(List.range es.length).filterMap fun (j:Nat)=>(es[j]?.bind zQ).bind fun x=>cond (ps.getD j .i).own (some (j,x)) none
noncomputable def gvL (ps:List Sh) (es:List za):List Nat:=(List.range es.length).filterMap fun (j:Nat)=>(es[j]?.bind zQ).bind fun x=>cond ((ps.getD j .i).isI&&(sh.getD x .i).own) (some x) none
noncomputable def cx2 (a:za):Option Nat:=(ul a).bind fun es=>(VI es).bind fun p=>(QH p.1).bind fun _=>zQ p.2
noncomputable def apart (io:List Nat) (a:za):Bool:=match zQ a with
 |some x=>!io.contains x
 |none=>(match cx2 a with | some x=>!io.contains x | none=>false)
noncomputable def uu (a:za):Bool:=match zQ a with
 |some x=>(sh.getD x .i).own
 |none=>false
noncomputable def xI (s:Sh) (a:za):Bool:=match zQ a with
 |some x=>decide (sh.getD x .i=s)
 |none=>false
noncomputable def Wf (io:List Nat) (s:Sh) (a:za) (t:Tr):Bool:=match s with
 | .i=>zM (cls sh a) t||uu sh a
 | .b=>(cls sh a).isI||(cls sh a).isB||t.isSc||io.isEmpty||apart io a
 | .u=>false
 |s=>xI sh s a
noncomputable def okX (np:Nat) (ps:List Sh) (es:List za) (ts:List Tr):Bool :=
 Nat.ble es.length 1000&&decide (((ioP ps es).map (·.2)).Nodup)&&((gvL sh ps es).all fun x=>decide (np<=x)&&!((ioP ps es).map (·.2)).contains x) &&
 ((List.range es.length).all fun (j:Nat)=>match es[j]? with | some e=>(match ts[j]? with | some t=>Wf sh ((ioP ps es).map (·.2)) (ps.getD j .i) e t | none=>false) | none=>false)
noncomputable def back (ps:List Sh) (es:List za) (ρc ρ:VS):VS:=(gvL sh ps es).foldl (fun ρ x=>ρ.set x none) ((ioP ps es).foldl (fun ρ jx=>ρ.set jx.2 (ρc.getD jx.1 none)) ρ)
variable (np:Nat)
noncomputable def WM (r:VR Tr) (b:VS->VS):VR Tr:=match r with
 | .ok t ρc=>.ok t (b ρc)
 | .exc c ρc=>.exc c (b ρc)
 | .stuck=>.stuck
noncomputable def QM (f:Nat) (args:za) (ρ:VS):VR Tr:=(((zK G sh C args).Es ρ).on ρ).bind fun ts ρ =>
 cond (okX sh np (G f).ps (qL args) ts&&!ts.isEmpty) (WM (C f ts) fun ρc=>back sh (G f).ps (qL args) ρc ρ) .stuck
noncomputable def jZ (o:za) (ρ:VS):Bool:=match zQ o with | some x=>(match yx x ρ with | .ok t=>vd t | .exc _=>false | .stuck=>false) | none=>false
noncomputable def XH (x:Nat) (es:za) (ρ:VS):VR Tr:=VR.opt (ρ[x]?.bind fun o=>o.bind Jk) fun us=>(((zK G sh C es).Es ρ).on ρ).bind fun ts ρ =>
  cond ((cls sh es).isI) (if ts.length<=lim/\us.length<lim then .ok (.sc .none) (qE (x,[]) (.nd .lst (us++[.nd .lst ts])) ρ) else .stuck) .stuck
noncomputable def kF (m:Me) (o args:za) (ρ:VS):VR Tr:=((vP G sh C o ρ).on ρ).bind fun xq ρ=>VR.opt (yB sh xq ρ) fun ts=>(((zK G sh C args).Es ρ).on ρ).bind fun as ρ =>
 VR.opt (W9 m ts (jQ sh args) as) fun r=>.ok r.1 (qE xq (.nd .lst r.2) ρ)
noncomputable def Qa:Sh->Bool
 | .L s=>(match s with | .L s=>s.isI | _=>false)
 | _=>false
noncomputable def Ac (m:Me) (o args:za) (ρ:VS):VR Tr:=match m with
 | .append=>(match zQ o with
  |some x=>cond (Qa (sh.getD x .i)) (VR.opt ((Ql args).bind ul) fun es=>XH G sh C x es ρ) (kF G sh C .append o args ρ)
  |none=>kF G sh C .append o args ρ)
 | .pop=>kF G sh C .pop o args ρ
 | .insert=>kF G sh C .insert o args ρ
noncomputable def eff:za->Bool
 | .call f _=>(G f).ps.any Sh.own
 | .mcall f _ _=>(G f).ps.any Sh.own
 | .un _ a=>eff a
 | .cmp _ a _=>eff a
 | .bin _ _ b=>eff b
 | .lst es=>eff es
 | .cons a b=>eff a||eff b
 | _=>false
noncomputable def l2 (es:za):Option (za × Nat × za):=(VI es).bind fun p=>(ZP p.2).map fun c=>(p.1,c.1,c.2)
noncomputable def vX:za->VS->VR Tr
 | .call f args,ρ=>QM G sh C np f args ρ
 | .mcall f o args,ρ=>cond (jZ o ρ) (QM G sh C np f (.cons o args) ρ) .stuck
 | .meth m o args,ρ=>Ac G sh C m o args ρ
 | .un op a,ρ=>(vX a ρ).bind fun t ρ=>(tUn op t).on ρ
 | .cmp op a b,ρ=>(vX a ρ).bind fun x ρ=>((vE G sh C b ρ).bind fun y=>(Ex.opt (ym op x y)).bind fun t=>.ok (.sc (.bool t))).on ρ
 | .bin op a b,ρ=>cond (eff G b) (((vE G sh C a ρ).on ρ).bind fun x ρ=>cond (zM (cls sh a) x) ((vX b ρ).bind fun y ρ=>(X7 .i (cls sh b) op x y).on ρ) .stuck) ((vE G sh C (.bin op a b) ρ).on ρ)
 | .lst es,ρ=>(match l2 es with
  |some p=>cond ((G p.2.1).ps.any Sh.own) (((vE G sh C p.1 ρ).on ρ).bind fun x ρ=>cond (zM (cls sh p.1) x) ((QM G sh C np p.2.1 p.2.2 ρ).bind fun y ρ=>(mkL [x,y]).on ρ) .stuck) ((vE G sh C (.lst es) ρ).on ρ)
  |none=>(vE G sh C (.lst es) ρ).on ρ)
 |e,ρ=>(vE G sh C e ρ).on ρ
noncomputable def kw (e:za):Bool:=match e with
 | .lst es=>(cls sh es).isI
 | .bin op _ _=>(match op with | .Mult=>true | .Add=>true | _=>false)
 | .slice _ _ _=>true
 | .comp _ _ _ _=>true
 | .bi b _=>(match b with | .list=>true | _=>false)
 | _=>false
noncomputable def Sh.sub (s r:Sh):Bool:=match s with
 | .L t=>(match t with | .i=>(match r with | .L _=>true | _=>false) | .L .i=>(match r with | .L (.L .i)=>true | _=>false) | _=>false)
 | .D=>(match r with | .D=>true | _=>false)
 | _=>false
noncomputable def vJ (s:Sh) (e:za):Bool:=match e with
 | .call f _=>s.sub (G f).rs
 | .mcall f _ _=>s.sub (G f).rs
 | _=>false
noncomputable def VZ (e:za):Bool:=match e with
 | .comp elt _ _ _=>kw sh elt
 | .lst es=>uv es
 | _=>false
noncomputable def acq (s:Sh) (e:za):Bool:=match s with
 | .L t=>(match t with
  | .i=>kw sh e||vJ G s e
  | .L u=>(match u with | .i=>VZ sh e||vJ G s e | _=>false)
  | _=>false)
 | .D=>vJ G s e
 | _=>false
noncomputable def Kj (e:za):Bool:=match Wj e with | some f=>Nat.beq f 79 | none=>false
noncomputable def GW (r:VR Tr):Ex Tr:=match r with
 | .ok t ρ=>(match t with | .sc v=>(match v with | .none=>(match ρ with | []=>.stuck | x::_=>Ex.opt x) | .bool _=>.stuck | .int _=>.stuck | .str _=>.stuck) | .nd _ _=>.stuck)
 | .exc _ _=>.stuck
 | .stuck=>.stuck
noncomputable def vN (s:Sh) (e:za) (ρ:VS):Ex Tr:=match s with
 | .T=>cond (Kj e&&decide ((G 79).ps=[.T])) (GW (C 79 [.nd .inst []])) .stuck
 |s=>cond (acq G sh s e) (vE G sh C e ρ) .stuck
inductive VF where
 |next | ret (t:Tr)
noncomputable def wH (e:za):Bool:=match zQ e with
 |some x=>Nat.ble np x&&(sh.getD x .i).own
 |none=>false
noncomputable def xo:List za->List Tr->Bool
 |e::es,ts=>(match ts with | t::ts=>(zM (cls sh e) t||wH sh np e)&&xo es ts | []=>false)
 | [],ts=>ts.isEmpty
noncomputable def XU (e:za) (ρ:VS):VR Tr:=match zQ e with
 |some x=>((yx x ρ).bind fun t=>cond (zM (cls sh (.loc x)) t||wH sh np (.loc x)) (.ok t) .stuck).on ρ
 |none=>(match VJ e with
  |some es=>(((zK G sh C es).Es ρ).bind fun ts=>cond (xo sh np (qL es) ts) (if ts.length<=lim then .ok (.nd .tup ts) else .stuck) .stuck).on ρ
  |none=>(vX G sh C np e ρ).bind fun t ρ=>cond (zM (cls sh e) t) (.ok t ρ) .stuck)
noncomputable def isD (s:Sh):Bool:=match s with | .D=>true | _=>false
noncomputable def tx2 (e:za):Option (Nat × za):=(VJ e).bind fun es=>(VI es).bind fun p=>(zQ p.1).map fun x=>(x,p.2)
noncomputable def XV (rs:Sh) (e:za) (ρ:VS):Ex Tr:=match QH e with
 |some v=>ZJ v
 |none=>(match tx2 e with
  |some p=>cond (isD rs&&Nat.ble np p.1&&Qa (sh.getD p.1 .i)&&kw sh p.2) (vE G sh C e ρ) .stuck
  |none=>vN G sh C rs e ρ)
noncomputable def wE (rs:Sh) (e:za) (ρ:VS):VR Tr:=match rs with
 | .i=>XU G sh C np e ρ
 |rs=>(XV G sh C np rs e ρ).on ρ
noncomputable def jR:List Nat->List Tr->VS->Option VS
 | [],ts,ρ=>(match ts with | []=>some ρ | _::_=>none)
 |x::xs,ts,ρ=>(match ts with | []=>none | t::ts=>cond (sh.getD x .i).isI (jR xs ts (ρ.set x (some t))) none)
noncomputable def Ue (t:Tr):Option (List Tr):=match t with
 | .nd k ts=>(match k with | .tup=>some ts | .lst=>none | .ro=>none | .inst=>none)
 | .sc _=>none
noncomputable def jF (f:Tr->VS->VR VF):List Tr->VS->VR VF
 | [],ρ=>.ok .next ρ
 |x::xs,ρ=>(f x ρ).bind fun p ρ=>match p with
  | .next=>jF f xs ρ
  | .ret t=>.ok (.ret t) ρ
noncomputable def jU (c:VS->VR Bool) (f:VS->VR VF):Nat->VS->VR VF
 | 0,_=>.stuck
 |n+1,ρ=>(c ρ).bind fun b ρ=>if b then (f ρ).bind fun p ρ=>(match p with
   | .next=>jU c f n ρ
   | .ret t=>.ok (.ret t) ρ)
  else .ok .next ρ
noncomputable def JK (f:Tr->Ex Bool):List Tr->Ex Bool
 | []=>.ok false
 |t::ts=>(f t).bind fun b=>if b then .ok true else JK f ts
noncomputable def uY (f:VS->Ex Tr) (x:Nat):Nat->Nat->VS->VR VF
 | 0,_,ρ=>.ok .next ρ
 |n+1,j,ρ=>VR.opt (yB sh (x,[0,j]) ρ) fun us=>((f ρ).on ρ).bind fun v ρ=>cond (v.isSc&&Nat.blt us.length lim) (uY f x n (j+1) (qE (x,[0,j]) (.nd .lst (us++[v])) ρ)) .stuck
noncomputable def kg (t:Tr):Option (List Tr):=(Ue t).bind fun us=>us[0]?.bind Jk
noncomputable def vT (e:za) (ρ:VS):VR Bool:=(vX G sh C np e ρ).bind fun t ρ=>(Ex.opt (zd t)).on ρ
noncomputable def Z9 (hs:List (Nat × Bool × Val)) (r:VR VF):VR VF:=match r with
 | .ok p ρ=>.ok p ρ
 | .exc c ρ=>(match qw c hs with | some v=>.ok (.ret (.sc v)) ρ | none=>.stuck)
 | .stuck=>.stuck
noncomputable def Uk (m:za):Sh:=match m with
 | .iobj a=>cls sh a
 | _=>.i
noncomputable def Wx (y c d:Sh):Bool:=match y with
 | .i=>c.isI&&d.isI
 | .b=>(c.isI||c.isB)&&(d.isI||d.isB)
 | _=>false
variable (rs:Sh) (W:Nat)
noncomputable def qD:zk->VS->VR VF
 | .nil,ρ=>.ok .next ρ
 | .cons s r,ρ=>(qD s ρ).bind fun p ρ=>match p with
  | .next=>qD r ρ
  | .ret t=>.ok (.ret t) ρ
 | .assign x e,ρ=>(match sh.getD x .i with
  | .i=>(vX G sh C np e ρ).bind fun t ρ=>cond (zM (cls sh e) t) (.ok .next (ρ.set x (some t))) .stuck
  |s=>cond (decide (np<=x)) (((vN G sh C s e ρ).on ρ).bind fun t ρ=>.ok .next (ρ.set x (some t))) .stuck)
 | .asub o i e,ρ=>((vE G sh C e ρ).on ρ).bind fun t ρ=>((vP G sh C o ρ).on ρ).bind fun xq ρ=>((vE G sh C i ρ).on ρ).bind fun k ρ =>
   VR.opt (yB sh xq ρ) fun ts=>VR.opt (K3 (cls sh e) ts k t) fun ts=>.ok .next (qE xq (.nd .lst ts) ρ)
 | .aattr o k e,ρ=>(match zQ o with
  |some x=>cond (decide (sh.getD x .i=.T)&&(Nat.blt k 2||Wq e)) (((vE G sh C e ρ).on ρ).bind fun t ρ=>VR.opt (Zs (cls sh e) x k t ρ) fun ts=>.ok .next (qE (x,[]) (.nd .inst ts) ρ)) .stuck
  |none=>.stuck)
 | .atup xs e,ρ=>(vX G sh C np e ρ).bind fun t ρ=>((cond (cls sh e).isI ((Ex.opt (Ue t)).bind fun ts=>Ex.opt (jR sh xs ts ρ)) .stuck).on ρ).bind fun ρ' _=>.ok .next ρ'
 | .expr e,ρ=>(vX G sh C np e ρ).bind fun _ ρ=>.ok .next ρ
 | .ifs c t e,ρ=>(vT G sh C np c ρ).bind fun b ρ=>if b then qD t ρ else qD e ρ
 | .fors tgt it b,ρ=>(match zQ tgt with
  |some y=>cond (Wx (sh.getD y .i) (Uk sh it) (cls sh it)) ((((zK G sh C it).I ρ).on ρ).bind fun ts ρ=>jF (fun x ρ=>qD b (ρ.set y (some x))) ts ρ) .stuck
  |none=>.stuck)
 | .forp y x c v,ρ=>cond (decide (sh.getD y .i=.u)&&isD (sh.getD x .i)&&!Nat.beq x y) (VR.opt (ρ[x]?.bind fun o=>o.bind kg) fun ts=>((JK (fun t=>(vE G sh C c (ρ.set y (some t))).bind fun u=>Ex.opt (zd u)) ts).on ρ).bind fun b ρ=>if b then .ok (.ret (.sc v)) (ρ.set y none) else .ok .next (ρ.set y none)) .stuck
 | .fora y x e,ρ=>cond (decide (sh.getD y .i=.u)&&isD (sh.getD x .i)&&!Nat.beq x y) (VR.opt (ρ[x]?.bind fun o=>o.bind kg) fun ts=>uY sh (vE G sh C e) x ts.length 0 (ρ.set y none)) .stuck
 | .whiles c b,ρ=>jU (vT G sh C np c) (qD b) W ρ
 | .ret e,ρ=>(wE G sh C np rs e ρ).bind fun t ρ=>.ok (.ret t) ρ
 | .raise c,ρ=>.exc c ρ
 | .tryx b hs,ρ=>Z9 hs (qD b ρ)
end
noncomputable def qr (r:VR VF):VR Tr:=r.bind fun p ρ=>match p with
 | .next=>.ok (.sc .none) ρ
 | .ret t=>.ok t ρ
noncomputable def vQ (F:Nat->Option zr) (G:Nat->Sg) (W:Nat) (C:VC) (f:Nat) (ts:List Tr):VR Tr:=match F f with
 |some d=>cond (Nat.beq ts.length d.np&&Nat.beq (G f).ps.length d.np&&Nat.ble (d.np+d.ns) 1000000) (qr (qD G (G f).sh C d.np (G f).rs W d.body (ts.map some++List.replicate (d.ns-d.np) none))) .stuck
 |none=>.stuck
noncomputable def vcN (F:Nat->Option zr) (G:Nat->Sg) (W:Nat):Nat->VC
 | 0,_,_=>.stuck
 |n+1,f,ts=>cond (Nat.blt (G f).rk n) (vcN F G W n f ts) (cond (Nat.beq (G f).rk n) (vQ F G W (vcN F G W n) f ts) .stuck)
end Mine
namespace Mine
open PySem
noncomputable def nrm (o:Obj):Obj:=match o.data with
 | .dict _ _=>{ o with slots:=#[] }
 | _=>o
noncomputable def look (h:Heap) (b:Addr):Option Obj:=(h.get? b).map nrm
noncomputable def kT (o:Obj):Prop:=∀ es ep,o.data≠.dict es ep
theorem yL (o:Obj):(nrm o).data=o.data:=by
 unfold nrm;split <;> rfl
theorem Wh (o:Obj):(nrm o).cls=o.cls:=by
 unfold nrm;split <;> rfl
theorem Ke (o:Obj):(nrm o).dict=o.dict:=by
 unfold nrm;split <;> rfl
theorem Y1 {o:Obj} (h:kT o):nrm o=o:=by
 unfold nrm;split
 ·rename_i es ep e;exact absurd e (h es ep)
 ·rfl
theorem zm {h:Heap} {b:Addr} {o:Obj} (e:h.get? b=some o):look h b=some (nrm o):=congrArg (Option.map nrm) e
theorem zp {h:Heap} {b:Addr} {o:Obj} (e:look h b=some o):∃ o',h.get? b=some o'/\nrm o'=o:=map_eq_some_iff.mp e
theorem zb {h h':Heap} {b:Addr} (k:∀ o,h.get? b=some o->h'.get? b=some o) {o:Obj} (e:look h b=some o):look h' b=some o :=
 let ⟨o',e1,e2⟩:=zp e
 e2▸zm (k o' e1)
theorem zx {h:Heap} {b:Addr} {o:Obj} (e:look h b=some o) (n:kT o):h.get? b=some o :=
 let ⟨o',e1,e2⟩:=zp e
 e1.trans (congrArg some ((Y1 fun es ep z=>n es ep (by rw [<- e2,yL];exact z)).symm.trans e2))
theorem zV {h:Heap} {b:Addr} {o:Obj} (e:h.get? b=some o) (n:kT o):look h b=some o:=(zm e).trans (congrArg some (Y1 n))
theorem rj {a b:Addr} (h:Value.ref a=.ref b):a=b:=Value.ref.inj h
noncomputable abbrev zf (ys:List Value) (n:Nat):Obj:={ cls:=.type "list",dict:=none,data:=.seq ys.toArray n,slots:=#[] }
noncomputable abbrev qq (ys:List Value) (n:Nat):Obj:={ cls:=.type "tuple",dict:=none,data:=.seq ys.toArray n,slots:=#[] }
noncomputable def ze:Nat->Str
 | 0=>"kept" | 1=>"goods" | _=>"past"
noncomputable def QU (B:Heap):Addr:=match B.nsMap mainGlobals "Table" with | some (.ref a)=>a | _=>0
noncomputable def ScR:Val->Value->Prop
 | .none,v=>v=.none
 | .bool b,v=>v=.bool b
 | .int i,v=>∃ t,v=.int i t
 | .str s,v=>s.length<=lim/\∃ t,v=.str ⟨s.toArray⟩ t
noncomputable abbrev Own:=Addr->Option (Nat × List Nat)
noncomputable abbrev Cl:=List Nat->Addr->Prop
noncomputable def bB:Nat:=1000000
noncomputable def bR:Nat:=1000001
noncomputable def bL:Nat:=1000002
noncomputable def wB (B h:Heap) (a dx:Addr) (ys:List Value):Prop :=
 ∃ o mA,h.get? a=some o/\o.cls=.ref (QU B)/\o.dict=some dx/\(∀ c,o.data≠.cls c)/\dx≠a/\h.Ns1 dx mA /\
  (∀ (k:Nat) (v:Value),k<3->ys[k]?=some v->mA (ze k)=some v)/\(∀ y,mA y≠none->y ∈ [ze 0,ze 1,ze 2])
noncomputable def jD (B h:Heap) (c:Cl) (a:Addr) (k:K) (ys:List Value):Prop:=match k with
 | .lst=>ys.length<=lim/\∃ n,h.get? a=some (zf ys n)
 | .ro=>ys.length<=lim/\∃ n,h.get? a=some (zf ys n)
 | .tup=>ys.length<=lim/\∃ n,h.get? a=some (qq ys n)
 | .inst=>∃ dx,c [3] dx/\wB B h a dx ys
inductive Rd (B h:Heap):Cl->Tr->Value->Prop
 |sc {c:Cl} {v:Val} {w:Value}:ScR v w->Rd B h c (.sc v) w
 |nd {c:Cl} {k:K} {ts:List Tr} {a:Addr} {vs:List Value}:c [] a->jD B h c a k vs->vs.length=ts.length ->
   (∀ j t v,ts[j]?=some t->vs[j]?=some v->Rd B h (fun p=>c (j::p)) t v)->Rd B h c (.nd k ts) (.ref a)
noncomputable def any:Cl:=fun _ _=>True
noncomputable def imm (o:Own):Cl:=fun _ a=>o a=none
noncomputable def bF:Nat:=1000003
noncomputable abbrev Lbs:=Option (Nat × List Nat)->Prop
noncomputable def frS:Lbs:=fun l=>l=none\/l=some (bB,[])\/l=some (bF,[])
noncomputable def frE:Lbs:=fun l=>frS l\/l=some (bL,[])
noncomputable abbrev Qb (o:Own) (a:Addr):Prop:=frS (o a)
noncomputable def KW:Lbs:=fun _=>True
noncomputable def fl:Lbs:=fun l=>l=some (bF,[])\/l=some (bL,[])
theorem fl.frE {l:Option (Nat × List Nat)} (q:fl l):frE l:=q.elim (fun q=>.inl (.inr (.inr q))) .inr
noncomputable def cS (o:Own) (s:Sh):Cl:=fun p a=>match s with
 | .b=>Qb o a
 |s=>match s.mem p with | true=>True | false=>o a=none
noncomputable def cO (o:Own) (x:Nat) (s:Sh):Cl:=fun p a=>match s with
 | .b=>Qb o a
 |s=>o a=cond (s.mem p) (some (x,p)) none
noncomputable def cL (o:Own) (x:Nat) (s:Sh):Cl:=fun p a=>o a=cond (s.mem p) (some (x,p)) none
noncomputable def AB (c c':Cl) (h h':Heap):Prop:=∀ p a ob,c p a->look h a=some ob->c' p a/\look h' a=some ob
theorem zj {c:Value} {ys:List Value} {n:Nat}:kT { cls:=c,dict:=none,data:=.seq ys.toArray n,slots:=#[] }:=fun _ _ e=>nomatch e
theorem Z6 {h h':Heap} {a:Addr} {m:Str->Option Value} (x:h.Ns1 a m) (k:∀ o,look h a=some o->look h' a=some o):h'.Ns1 a m :=
 let ⟨_,es,ep,e,d,r⟩:=x
 let ⟨o',e',q⟩:=zp (k _ (zm e))
 ⟨o',es,ep,e',by rw [<- yL o',q,yL];exact d,r⟩
theorem wB.mono {B h h':Heap} {a dx:Addr} {ys:List Value} (k1:∀ ob,look h a=some ob->look h' a=some ob) (k2:∀ ob,look h dx=some ob->look h' dx=some ob) (r:wB B h a dx ys):wB B h' a dx ys :=
 let ⟨o,mA,e1,e3,e4,e5,e6,e7,e8⟩:=r
 let ⟨o',e',q⟩:=zp (k1 _ (zm e1))
 ⟨o',mA,e',by rw [<- Wh o',q,Wh];exact e3,by rw [<- Ke o',q,Ke];exact e4,fun c=>by rw [<- yL o',q,yL];exact e5 c,e6,Z6 e7 k2,e8⟩
theorem jD.mono {B h h':Heap} {c c':Cl} {a:Addr} {k:K} {ys:List Value} (q:c [] a) (g:AB c c' h h') (r:jD B h c a k ys):jD B h' c' a k ys:=by
 have z:∀ {c0:Value} {n:Nat},h.get? a=some { cls:=c0,dict:=none,data:=.seq ys.toArray n,slots:=#[] }->h'.get? a=some { cls:=c0,dict:=none,data:=.seq ys.toArray n,slots:=#[] }:=fun e=>zx (g [] a _ q (zV e zj)).2 zj
 cases k with
 |lst=>exact ⟨r.1,r.2.imp fun _=>z⟩
 |ro=>exact ⟨r.1,r.2.imp fun _=>z⟩
 |tup=>exact ⟨r.1,r.2.imp fun _=>z⟩
 |inst =>
  refine ob12 r fun dx e1 wz0=>?_;refine ob22 wz0 fun o mA i1 i=>?_
  refine ob32 i.2.2.2.2.1 fun od _ _ d1 _=>?_
  exact ⟨dx,(g [3] dx _ e1 (zm d1)).1,wB.mono (fun ob e=>(g [] a ob q e).2) (fun ob e=>(g [3] dx ob e1 e).2) ⟨o,mA,i1,i⟩⟩
theorem Rd.mono {B h h':Heap} {c c':Cl} {t:Tr} {v:Value} (r:Rd B h c t v) (k:AB c c' h h'):Rd B h' c' t v:=by
 induction r generalizing c' with
 |sc e=>exact .sc e
 |nd e1 e2 e3 _ ih =>
  rename_i c0 k0 ts a vs _
  have al:∃ ob,look h a=some ob:=by
   clear c;cases k0 with
   |inst=>refine ob12 e2 fun dx _ wz2=>?_;refine ob22 wz2 fun o mA i1 _=>?_;exact ⟨_,zm i1⟩
   | _=>refine zc e2 fun _ wz3=>?_;refine ob11 wz3 fun n i1=>?_;exact ⟨_,zm i1⟩
  refine ob11 al fun ob e=>?_
  exact .nd (k _ _ _ e1 e).1 (e2.mono e1 k) e3 fun j t v a b=>ih j t v a b fun p=>k (j::p)
noncomputable abbrev zA (h h':Heap):Prop:=∀ b ob,look h b=some ob->look h' b=some ob
theorem Rd.grow {B h h':Heap} {c:Cl} {t:Tr} {v:Value} (g:zA h h') (r:Rd B h c t v):Rd B h' c t v:=r.mono fun _ _ _ e1 e2=>⟨e1,g _ _ e2⟩
theorem Rd.to {B h:Heap} {c c':Cl} {t:Tr} {v:Value} (r:Rd B h c t v) (k:∀ p a,c p a->c' p a):Rd B h c' t v:=r.mono fun p a _ e1 e2=>⟨k p a e1,e2⟩
theorem Rd.any {B h:Heap} {c:Cl} {t:Tr} {v:Value} (r:Rd B h c t v):Rd B h any t v:=r.to fun _ _ _=>trivial
theorem Rd.isSc {B h:Heap} {c:Cl} {w:Val} {v:Value} (r:Rd B h c (.sc w) v):ScR w v:=by cases r with | sc e=>exact e
theorem Rd.cls {B h:Heap} {c c':Cl} {t:Tr} {v:Value} (r:Rd B h c t v) (e:t.isSc=true):Rd B h c' t v:=by
 cases r with
 |sc q=>exact .sc q
 |nd=>exact no3 e
theorem Rd.node {B h:Heap} {c:Cl} {k:K} {ts:List Tr} {v:Value} (r:Rd B h c (.nd k ts) v):∃ a vs,v=.ref a/\c [] a/\jD B h c a k vs/\vs.length=ts.length/\∀ j t v,ts[j]?=some t->vs[j]?=some v->Rd B h (fun p=>c (j::p)) t v:=by
 cases r with | nd e1 e2 e3 e4=>exact ⟨_,_,rfl,e1,e2,e3,e4⟩
noncomputable def A2 {α β:Type} (R:α->β->Prop):List α->List β->Prop
 | [],vs=>vs=[]
 |t::ts,vs=>∃ w ws,vs=w::ws/\R t w/\A2 R ts ws
section
variable {α β:Type} {R R':α->β->Prop}
theorem A2.len:∀ {ts:List α} {vs:List β},A2 R ts vs->vs.length=ts.length
 | [],_,h=>by rw [show _=[] from h];rfl
 | _::_,_,⟨w,ws,e,_,r⟩=>by rw [e,length_cons,length_cons,r.len]
theorem A2.of:∀ {ts:List α} {vs:List β},vs.length=ts.length->(∀ (j:Nat) t v,ts[j]?=some t->vs[j]?=some v->R t v)->A2 R ts vs
 | [],vs,e,_=>length_eq_zero_iff.mp e
 |t::ts,vs,e,k=>match vs,e with
  |w::ws,e=>⟨w,ws,rfl,k 0 t w rfl rfl,A2.of (Nat.succ.inj e) fun j=>k (j+1)⟩
theorem A2.get:∀ {ts:List α} {vs:List β} {j:Nat} {t:α},A2 R ts vs->ts[j]?=some t->∃ v,vs[j]?=some v/\R t v
 | [],_,_,_,_,e=>nomatch e
 | _::_,_,0,_,⟨w,ws,e,r,_⟩,q=>by obtain rfl:=sj q;exact ⟨w,by rw [e];rfl,r⟩
 | _::_,_,j+1,_,⟨w,ws,e,_,r⟩,q=>by
  refine ob12 (r.get (j:=j) q) fun v h1 h2=>?_
  exact ⟨v,by rw [e];exact h1,h2⟩
theorem A2.at {ts:List α} {vs:List β} {j:Nat} {t:α} {v:β} (r:A2 R ts vs) (e:ts[j]?=some t) (q:vs[j]?=some v):R t v:=by
 refine ob12 (r.get e) fun w h1 h2=>?_
 rw [q] at h1;clear ts vs j r e q;obtain rfl:=sj h1;exact h2
theorem A2.imp (k:∀ t v,R t v->R' t v):∀ {ts:List α} {vs:List β},A2 R ts vs->A2 R' ts vs
 | [],_,h=>h
 | _::_,_,⟨w,ws,e,r,rs⟩=>⟨w,ws,e,k _ _ r,rs.imp k⟩
theorem A2.append:∀ {ts us:List α} {vs ws:List β},A2 R ts vs->A2 R us ws->A2 R (ts++us) (vs++ws)
 | [],_,_,_,h,k=>by rw [show _=[] from h];exact k
 | _::_,_,_,_,⟨w,ws,e,r,rs⟩,k=>by rw [e];exact ⟨w,_,rfl,r,rs.append k⟩
theorem A2.one {t:α} {v:β} (r:R t v):A2 R [t] [v]:=⟨v,[],rfl,r,rfl⟩
theorem A2.take:∀ {ts:List α} {vs:List β} (n:Nat),A2 R ts vs->A2 R (ts.take n) (vs.take n)
 | [],_,n,h=>by rw [show _=[] from h,List.take_nil,List.take_nil];rfl
 | _::_,_,0,_=>rfl
 | _::_,_,n+1,⟨w,ws,e,r,rs⟩=>by rw [e];exact ⟨w,_,rfl,r,rs.take n⟩
theorem A2.drop:∀ {ts:List α} {vs:List β} (n:Nat),A2 R ts vs->A2 R (ts.drop n) (vs.drop n)
 | [],_,n,h=>by rw [show _=[] from h,drop_nil,drop_nil];rfl
 | _::_,_,0,h=>h
 | _::_,_,n+1,⟨w,ws,e,r,rs⟩=>by rw [e];exact rs.drop n
theorem A2.rep {ts:List α} {vs:List β} (h:A2 R ts vs):∀ n,A2 R (List.replicate n ts).flatten (List.replicate n vs).flatten
 | 0=>rfl
 |n+1=>by rw [replicate_succ,replicate_succ,flatten_cons,flatten_cons];exact h.append (h.rep n)
end
section
variable {B h:Heap} {o:Own} {s:Sh} {k:K} {t:Tr} {ts:List Tr} {v:Value} {c:Cl}
theorem Rd.elems (r:Rd B h (cS o s) (.nd k ts) v) (e:wL s ts=true):∃ a vs,v=.ref a/\jD B h (cS o s) a k vs/\A2 (Rd B h (imm o)) ts vs:=by
 refine ob25 r.node fun a vs e1 _ e3 e4 e5=>?_
 refine ⟨a,vs,e1,e3,A2.of e4 fun j t v q1 q2=>?_⟩
 clear r e1 e3 e4;rcases or_eq_true_iff.mp e with f | f
 ·refine (e5 j t v q1 q2).to fun p b q=>?_
  clear e;cases s with
  |i=>exact q
  |L s=>cases s with
   |i=>exact q
   | _=>clear q;cases f
  | _=>clear q;cases f
 ·exact (e5 j t v q1 q2).cls (all_eq_true.mp f t (mem_of_getElem? q1))
theorem Rd.st (r:Rd B h (cS o s) t v) (e:zM s t=true):Rd B h (imm o) t v:=by
 rcases or_eq_true_iff.mp e with f | f
 ·clear e;cases s with
  |i=>exact r
  | _=>cases f
 ·exact r.cls f
theorem Rd.items (r:Rd B h c (.nd k ts) v):∃ a vs,v=.ref a/\jD B h c a k vs/\A2 (Rd B h Mine.any) ts vs:=by
 refine ob25 r.node fun a vs e1 _ e3 e4 e5=>?_
 exact ⟨a,vs,e1,e3,A2.of e4 fun j t v q1 q2=>(e5 j t v q1 q2).any⟩
theorem Rd.new {a:Addr} {vs:List Value} {Q:Addr->Prop} (q:Q a) (e:jD B h (fun _=>Q) a k vs) (r:A2 (Rd B h fun _=>Q) ts vs):Rd B h (fun _=>Q) (.nd k ts) (.ref a):=.nd q e r.len fun _ _ _ e1 e2=>r.at e1 e2
theorem Kx {e:za} {j:Nat} {p:List Nat} {a:Addr} (z:∀ k:Nat,isC e k=true->j=k) (q:cS o s (j::p) a):cS o (s.el e) p a:=by
 cases s with
 |i=>exact q
 |b=>exact q
 |u=>exact q
 |L s =>
  cases s with
  |b=>trivial
  | _=>exact q
 |T=>trivial
 |D =>
  show cS o (cond (isC e 0) (.L (.L .i)) (cond (isC e 1) (.L .i) .u)) p a
  cases e0:isC e 0 with
  |true =>
   cases z 0 e0
   cases p with
   |nil=>trivial
   |cons _ p=>cases p with
    |nil=>trivial
    |cons=>exact q
  |false=>cases e1:isC e 1 with
   |true =>
    cases z 1 e1
    clear z;cases p with
    |nil=>trivial
    |cons=>exact q
   |false=>trivial
end
noncomputable def yH (o:Own):Prop:=∀ a x p,o a=some (x,p)->x=bL\/x=bF->p=[]
noncomputable abbrev zC (P:Lbs) (o o':Own) (h h':Heap):Prop:=∀ b ob,P (o b)->look h b=some ob->look h' b=some ob/\o' b=o b
section
variable {P:Lbs} {o o1 o2:Own} {h h1 h2:Heap}
theorem zC.refl:zC P o o h h:=fun _ _ _ e=>⟨e,rfl⟩
theorem zC.trans (s:zC P o o1 h h1) (t:zC P o1 o2 h1 h2):zC P o o2 h h2:=fun b ob f e=>by
 refine zc (s b ob f e) fun e1 e2=>?_
 refine zc (t b ob (e2▸f) e1) fun e3 e4=>?_
 exact ⟨e3,e4.trans e2⟩
theorem zA.step (g:zA h h1):zC P o o h h1:=fun b ob _ e=>⟨g b ob e,rfl⟩
theorem zC.toS (s:zC frE o o1 h h1):zC frS o o1 h h1:=fun b ob f e=>s b ob (.inl f) e
end
structure HB (B:Heap) (o:Own) (h:Heap):Prop where
 base:∀ b ob,B.get? b=some ob->h.get? b=some ob
 own:∀ a,o a≠none->B.get? a=none/\∃ ob,h.get? a=some ob
structure HBx (B:Heap) (o:Own) (h:Heap):Prop where
 base:∀ b ob,B.get? b=some ob->h.get? b=some ob
 own:∀ a,o a≠none->B.get? a=none/\(¬ fl (o a)->∃ ob,h.get? a=some ob)
section
variable {B:Heap} {o:Own} {h h':Heap} {a:Addr}
theorem HB.grow (r:HB B o h) (k:∀ b ob,h.get? b=some ob->h'.get? b=some ob):HB B o h' :=
 ⟨fun b ob e=>k b ob (r.base b ob e),fun a n=>⟨(r.own a n).1,(r.own a n).2.imp fun ob=>k a ob⟩⟩
theorem HB.free (r:HB B o h) (e:h.get? a=none):o a=none:=by
 cases q:o a with
 |none=>rfl
 |some x=>refine zc (r.own a (by rw [q];exact fun z=>nomatch z)) fun _ wz8=>?_;refine ob11 wz8 fun ob z=>?_;rw [e] at z;clear r e wz8;exact no1 z
theorem HB.freeB (r:HB B o h) (e:h.get? a=none):B.get? a=none:=by
 cases q:B.get? a with
 |none=>rfl
 |some ob=>rw [r.base a ob q] at e;clear r;exact no2 e
end
theorem zH (h:Heap):h.get? h.objs.size=none:=by
 cases e:h.get? h.objs.size with
 |none=>rfl
 |some o=>exact absurd (Heap.lt_size e) (lt_irrefl _)
theorem zt (h:Heap) (o:Obj):∀ b ob,h.get? b=some ob->(h.push o).get? b=some ob:=fun _ _ e=>Heap.get?_push_of_some o e
noncomputable def jL:Option NameKind->Bool
 |some .local | some .cell | some .free=>true
 | _=>false
noncomputable def yG (env:Env) (h:Heap) (x:Str) (v:Value):Prop :=
 (env.kindOf x=some .local/\∃ m,h.Ns env.locals m/\m x=some v) \/
 ((env.kindOf x=some .cell\/env.kindOf x=some .free)/\∃ c,env.cells.lookup x=some c/\h.IsCell c (some v))
structure Frm (env:Env) (h:Heap):Prop where
 kind:env.scope.kind=.function
 glob:env.globals=mainGlobals
 bl:env.builtins=builtinsNs
 ns:∃ m,h.Ns env.locals m
 cell:∀ x c,env.cells.lookup x=some c->(∃ v,h.IsCell c v)/\c≠env.locals
 cinj:∀ x y c,env.cells.lookup x=some c->env.cells.lookup y=some c->x=y
 has:∀ x,(env.kindOf x=some .cell\/env.kindOf x=some .free)->∃ c,env.cells.lookup x=some c
structure Lab (env:Env) (o:Own):Prop where
 loc:o env.locals=some (bL,[])
 cell:∀ x c,env.cells.lookup x=some c->o c=some (bL,[])
theorem zZ {h:Heap} {a:Addr} {m:Str->Option Value} (x:h.Ns a m):∃ o,h.get? a=some o:=let ⟨o,_,_,e,_⟩:=x;⟨o,e⟩
theorem yF {h h':Heap} {a:Addr} {m:Str->Option Value} (x:h.Ns a m) (k:∀ o,look h a=some o->look h' a=some o):h'.Ns a m :=
 let ⟨_,es,ep,e,d,r⟩:=x
 let ⟨o',e',q⟩:=zp (k _ (zm e))
 ⟨o',es,ep,e',by rw [<- yL o',q,yL];exact d,r⟩
theorem qg {h h':Heap} {c:Addr} {v:Option Value} (x:h.IsCell c v) (k:∀ o,look h c=some o->look h' c=some o):h'.IsCell c v :=
 let ⟨_,e,d⟩:=x
 let ⟨o',e',q⟩:=zp (k _ (zm e))
 ⟨o',e',by rw [<- yL o',q,yL];exact d⟩
theorem WR {h:Heap} {a:Addr} {m m':Str->Option Value} (x:h.Ns a m) (y:h.Ns a m'):m=m':=by
 refine ob34 x fun o es ep e d _ r=>?_
 refine ob34 y fun o' es' ep' e' d' _ r'=>?_
 rw [e] at e';clear h a x y e;cases e';rw [d] at d';clear o d;cases d'
 exact funext fun z=>(r z).symm.trans (r' z)
theorem yG.atL {env:Env} {h h':Heap} {x:Str} {v:Value} (b:yG env h x v) (kl:∀ o,look h env.locals=some o->look h' env.locals=some o)
  (kc:∀ c o,env.cells.lookup x=some c->look h c=some o->look h' c=some o):yG env h' x v:=by
 rcases b with ⟨k,m,n,e⟩ | ⟨k,c,l,e⟩
 ·exact .inl ⟨k,m,yF n kl,e⟩
 ·exact .inr ⟨k,c,l,qg e fun o=>kc c o l⟩
section
variable {env:Env} {o o':Own} {h h':Heap}
noncomputable def xw (env:Env) (h h':Heap):Prop:=∀ b ob,(b=env.locals\/∃ x,env.cells.lookup x=some b)->look h b=some ob->look h' b=some ob
theorem Frm.at (f:Frm env h) (k:xw env h h'):Frm env h' :=
 ⟨f.kind,f.glob,f.bl,f.ns.imp fun m n=>yF n fun ob e=>k _ ob (.inl rfl) e,fun x c l=>⟨(f.cell x c l).1.imp fun v ic=>qg ic fun ob e=>k _ ob (.inr ⟨x,l⟩) e,(f.cell x c l).2⟩,f.cinj,f.has⟩
theorem yG.kept {x:Str} {v:Value} (b:yG env h x v) (k:xw env h h'):yG env h' x v:=b.atL (fun ob e=>k _ ob (.inl rfl) e) fun c ob q e=>k _ ob (.inr ⟨x,q⟩) e
theorem Lab.kept (l:Lab env o) (s:zC frE o o' h h'):xw env h h':=fun b ob q e=>by
 rcases q with rfl | ⟨x,q⟩
 ·exact (s _ ob (.inr l.loc) e).1
 ·exact (s _ ob (.inr (l.cell x b q)) e).1
theorem Lab.step (l:Lab env o) (f:Frm env h) (s:zC frE o o' h h'):Lab env o' :=
 ⟨let ⟨_,n⟩:=f.ns;let ⟨_,e⟩:=zZ n;(s _ _ (.inr l.loc) (zm e)).2.trans l.loc,fun x c q=>let ⟨⟨_,ob,e,_⟩,_⟩:=f.cell x c q;(s _ _ (.inr (l.cell x c q)) (zm e)).2.trans (l.cell x c q)⟩
end
structure XE where
 l:List Env
 E:Value->Shared->Prop
noncomputable def zO:Nat->Str
 | 0=>"SplitError" | 1=>"NoPeople" | 2=>"TooMany" | 3=>"Uneven" | 4=>"BadBid" | 5=>"NoDeal" | 6=>"NoPerson" | 7=>"NoGood" | _=>"NoText"
noncomputable def yV (B:Heap) (c:Nat):Addr:=match B.nsMap mainGlobals (zO c) with | some (.ref a)=>a | _=>0
noncomputable abbrev JB:List Value:=[.type "ValueError",.type "Exception",.type "BaseException",.type "object"]
noncomputable def tlK (B:Heap) (c:Nat):List Value:=(if c=0 then [] else [.ref (yV B 0)])++JB
noncomputable abbrev vg:List Str:=["__init__","__getattribute__","__getattr__","__class__"]
structure XR where
 nm:Str
 N:Addr
 q:Str
 bs:List Value
 hdct:Bool
 sn:List Str
 sub:List Value
 ab:Bool
 col:Option Bool
 dd:Option Addr
 k0:Option Value
 k1:Option Value
 k2:Option Value
 k3:Option Value
 k5:Option Value
 mN:Str->Option Value
@[reducible] noncomputable def XR.obj (r:XR) (B:Heap) (c:Nat):Obj:=excClassObj (zO c) r.q (yV B c) r.N r.bs (tlK B c) r.hdct r.sn r.sub r.ab r.col r.dd r.k0 r.k1 r.k2 r.k3 r.k5 "ValueError.__new__"
@[reducible] noncomputable def XR.cls (r:XR) (C N:Addr):Obj:=excClassObj r.nm r.q C N r.bs [Value.type "object"] true r.sn r.sub false r.col r.dd r.k0 r.k1 r.k2 r.k3 r.k5 "object.__new__"
theorem vI {h:Heap} {C N:Addr} {mN:Str->Option Value} (T:PyProof.Rows.ClsAt h C N mN):∃ r:XR,h.get? C=some (r.cls C N):=by
 refine ob71 T.obj fun nm q bs sn sub col dd wz0=>?_;refine ob51 wz0 fun k0 k1 k2 k3 k5 hC=>?_;clear wz0
 exact ⟨⟨nm,N,q,bs,true,sn,sub,false,col,dd,k0,k1,k2,k3,k5,mN⟩,hC⟩
noncomputable def yz (B:Heap) (c:Nat):Prop:=c<9/\(∃ c0 dd sl cd m0,B.get? (yV B 0)=some { cls:=c0,dict:=dd,data:=.cls cd,slots:=sl }/\cd.name=zO 0/\B.Ns cd.ns m0/\∀ n∈vg,m0 n=none) /\
 ∃ r:XR,B.get? (yV B c)=some (r.obj B c)/\B.Ns r.N r.mN/\(∀ n∈vg,r.mN n=none)/\OwnTail B JB (tlK B c)
noncomputable def EK (h:Heap) (e:Addr):Prop:=∃ oe vs,h.get? e=some oe/\oe.data=.fields vs/\vs[2]?=some .none
noncomputable def Trc (h base:Heap) (e:Addr) (cls:Value):Prop:=(∃ a0 fl,h.TracedAtW base e cls a0 fl)/\EK h e
noncomputable def KY (base:Heap) (l:List Env) (C e:Addr) (h':Heap):Prop :=
 base.StaysIn h'/\base.get? e=none/\h'.FunFrames base l /\
 ((∃ oe vs a0,h'.get? e=some oe/\oe.cls=.ref C/\oe.data=.fields vs/\vs[0]?=some a0/\vs[1]?=some .none/\vs[2]?=some .none)\/Trc h' base e (.ref C))
structure qf (P:Lbs) (o o':Own) (h base h':Heap):Prop where
 step:zC P o o' h h'
 based:∀ b ob,P (o b)->look h b=some ob->(kT ob\/¬ fl (o b))->look base b=some ob
theorem zC.transX {P:Lbs} {o o1 o2:Own} {h h1 h2 base:Heap} (s:zC P o o1 h h1) (t:qf P o1 o2 h1 base h2):qf P o o2 h base h2 :=
 ⟨s.trans t.step,fun b ob f e nd=>let ⟨e1,e2⟩:=s b ob f e;t.based b ob (e2▸f) e1 (nd.imp id fun q=>e2▸q)⟩
theorem qf.ofAll {P:Lbs} {o o':Own} {h base h':Heap} (x:qf KW o o' h base h'):qf P o o' h base h':=⟨fun b ob _=>x.step b ob trivial,fun b ob _=>x.based b ob trivial⟩
theorem qf.toS {o o':Own} {h base h':Heap} (x:qf frE o o' h base h'):qf frS o o' h base h':=⟨x.step.toS,fun b ob f=>x.based b ob (.inl f)⟩
@[reducible] def up (s:Shared) (h:Heap) (tk:Nat):Shared:={ s with heap:=h,toks:=tk }
noncomputable def PX (B:Heap) (X:XE) (I:Own->Heap->Prop) (P:Lbs) (o:Own) (s:Shared) (c:Nat):Prop :=
 ∀ o' h' tk e base,HBx B o' base->yz B c->I o' base->qf P o o' s.heap base h'->KY base X.l (yV B c) e h'->X.E (.ref e) (up s h' tk)
theorem PX.step {B:Heap} {X:XE} {I:Own->Heap->Prop} {P:Lbs} {o o':Own} {s:Shared} {c:Nat} {h':Heap} {tk:Nat} (p:PX B X I P o s c) (st:zC P o o' s.heap h'):PX B X I P o' (up s h' tk) c :=
 fun o2 h2 tk2 e base r xc i st2 x=>p o2 h2 tk2 e base r xc i (st.transX st2) x
theorem PX.toE {B:Heap} {X:XE} {I:Own->Heap->Prop} {o:Own} {s:Shared} {c:Nat} (p:PX B X I frS o s c):PX B X I frE o s c:=fun o' h' tk e base r xc i st x=>p o' h' tk e base r xc i st.toS x
structure AOk (n:Nat) (A:Around):Prop where
 handled:A.handled=none
 depth:A.depth+2*n+1<900
 units:A.units+20*n+110<9900
theorem AOk.u {n:Nat} {A:Around} (h:AOk n A) (k:Nat) (hk:k<=100:=by omega):A.units+k<cLine:=by have:=h.units;show _<9900;(exact DE hk this)
open Classical in
noncomputable def cut (P:Addr->Prop) (h:Heap):Heap:={ h with objs:=h.objs.mapIdx fun i o=>if P i then { o with data:=.freed } else o }
theorem ww {P:Addr->Prop} {h:Heap} {b:Addr} (p:P b):(cut P h).get? b=none:=by
 unfold cut Heap.get?
 simp only [Array.getElem?_mapIdx]
 cases h.objs[b]? with
 |none=>rfl
 |some o=>simp only [map_some,if_pos p]
theorem qT {P:Addr->Prop} {h:Heap} {b:Addr} (p:¬ P b):(cut P h).get? b=h.get? b:=by
 unfold cut Heap.get?
 simp only [Array.getElem?_mapIdx]
 cases h.objs[b]? with
 |none=>rfl
 |some o=>simp only [map_some,if_neg p]
theorem G9 {P:Addr->Prop} {h:Heap}:(cut P h).StaysIn h:=fun b o e=>by
 by_cases p:P b
 ·exact no1 (Eq.trans (Eq.symm (ww p)) e)
 ·rwa [qT p] at e
noncomputable def JF (B:Heap) (l:List Env) (o:Own) (h:Heap):Prop:=∀ e,e∈l->e.scope.kind≠.module/\∃ L,e.frame=some L/\fl (o L)/\B.get? L=none/\∃ m,h.Ns L m
theorem JF.step {B:Heap} {l:List Env} {o o':Own} {h h':Heap} (f:JF B l o h) (st:zC frE o o' h h'):JF B l o' h':=fun e he=>by
 refine zc (f e he) fun h1 wz0=>?_;refine ob14 wz0 fun L h2 h3 h4 wz0=>?_;obtain ⟨m,h5⟩:=wz0
 refine ob11 (zZ h5) fun ob e0=>?_
 have k:frE (o L):=h3.frE
 exact ⟨h1,L,h2,by rw [(st L _ k (zm e0)).2];exact h3,h4,m,yF h5 fun ob e=>(st L ob k e).1⟩
theorem JF.fun {B:Heap} {o:Own} {h h' base:Heap}:∀ {l:List Env},JF B l o h->(∀ e L,e∈l->e.frame=some L->base.get? L=none)->(∀ b ob,h.get? b=some ob->h'.get? b=some ob)->h'.FunFrames base l
 | [],_,_,_=>trivial
 |e::l,f,p,k=>by
  refine zc (f e (.head _)) fun h1 wz1=>?_;refine ob14 wz1 fun L h2 _ _ wz2=>?_;clear wz1;obtain ⟨m,ob,es,ep,h5,h6,_⟩:=wz2
  exact ⟨h1,⟨L,ob,h2,p e L (.head _) h2,k _ _ h5,fun vs q=>by rw [h6] at q;clear h1 h2 ob h5 h6;cases q⟩,JF.fun (fun e he=>f e (.tail _ he)) (fun e L he=>p e L (.tail _ he)) k⟩
theorem kL {h base base':Heap} (k:∀ b,base.get? b=none->base'.get? b=none):∀ {l:List Env},h.FunFrames base l->h.FunFrames base' l
 | [],_=>trivial
 | _::_,⟨h1,⟨L,o,h2,h3,h4⟩,h5⟩=>⟨h1,⟨L,o,h2,k _ h3,h4⟩,kL k h5⟩
theorem wh {h h' base:Heap}:∀ {l:List Env},h.FunFrames base l->(∀ e,e∈l->∀ L o,e.frame=some L->h.get? L=some o->h'.get? L=some o)->h'.FunFrames base l
 | [],_,_=>trivial
 |e::_,⟨h1,⟨L,o,h2,h3,h4,h6⟩,h5⟩,k=>⟨h1,⟨L,o,h2,h3,k e (.head _) L o h2 h4,h6⟩,wh h5 fun e he=>k e (.tail _ he)⟩
theorem To {h base base':Heap} {e:Addr} {cls a0 fl:Value} (k:∀ b,base.get? b=none->base'.get? b=none) (t:h.TracedAtW base e cls a0 fl):h.TracedAtW base' e cls a0 fl:=by
 refine ob56 t fun oe vs T oT ts h1 h2 h3 h4 h5 h6=>?_;clear t
 exact ⟨oe,vs,T,oT,ts,h1,h2,h3,h4,k _ h5,h6⟩
theorem Zb {base h' h'':Heap} {b:Addr} {o:Obj} (e:look h' b=some o) (bs:kT o->∃ o',base.get? b=some o') (s1:base.StaysIn h') (s2:base.StaysIn h'') (u:h'.UpToSlots h''):look h'' b=some o:=by
 by_cases d:∃ es ep,o.data=.dict es ep
 ·refine ob21 d fun es ep d=>?_
  refine ob12 (zp e) fun o' e' ez5x2=>?_;subst ez5x2
  rw [yL] at d
  obtain ⟨sl,e2⟩:=u b o' e' fun vs q=>by rw [d] at q;clear u;cases q
  rw [zm e2]
  obtain ⟨c,dd,dt,ss⟩:=o'
  have d:dt=.dict es ep:=d
  clear u e2;subst d;rfl
 ·refine ob11 (bs fun es ep q=>d ⟨es,ep,q⟩) fun o' e'=>?_
  rw [zm (s1 b o' e')] at e
  rw [zm (s2 b o' e')];exact e
theorem qf.hop {P:Lbs} {o o':Own} {h base h' h'':Heap} (x:qf P o o' h base h') (s1:base.StaysIn h') (s2:base.StaysIn h'') (u:h'.UpToSlots h''):qf P o o' h base h'' :=
 ⟨fun b ob f e=>⟨Zb (x.step b ob f e).1 (fun nd=>(zp (x.based b ob f e (.inl nd))).imp fun _ z=>z.1) s1 s2 u,(x.step b ob f e).2⟩,x.based⟩
section
variable {M:Model} {A:Around} {E:Value->Shared->Prop} {s:Shared} {base:Heap} {l:List Env} {C e:Addr}
theorem xL {f:Option Addr} {cls:Value} {Q:Unit->Shared->Prop} (k1:base.StaysIn s.heap) (k2:s.heap.FunFrames base l) (t:Trc s.heap base e cls)
  (h:∀ h',base.StaysIn h'->h'.FunFrames base l->Trc h' base e cls->s.heap.UpToSlots h'->Q () { s with heap:=h' }):wpAny M A (setFlight (.ref e) f) Q E s:=by
 refine zc t fun wz7x0 wz7=>?_;clear t;refine ob78 wz7x0 fun a0 fl oe vs T oT ts t1 t2 t3 t4 t5 t6 t7 wz7=>?_;clear wz7x0;obtain ⟨t8,t9⟩:=wz7;refine ob23 wz7 fun oe' vs' c1 c2 c3=>?_;clear wz7
 have sz:3<ts.size:=(Array.getElem?_eq_some_iff.mp t9).1
 unfold setFlight
 refine wpAny_bind (wpAny_field t1 t3 t4 ?_)
 rw [if_pos (show (Value.ref T != Value.none)=true by simp)]
 have ot:∀ b,b≠T->(s.heap.update T (Obj.mapFields (·.setIfInBounds 3 (f.elim Value.none fun f=>rawInt f)))).get? b=s.heap.get? b:=fun b q=>Heap.get?_update_other _ _ (Ne.symm q)
 have up:s.heap.UpToSlots (s.heap.update T (Obj.mapFields (·.setIfInBounds 3 (f.elim Value.none fun f=>rawInt f)))):=fun b o q nf=>⟨o.slots,(ot b fun z=>by rw [z,t7] at q;clear fl t9;obtain rfl:=sj q;exact nf ts t8).trans q⟩
 refine wpAny_setField t7 t8 sz (h _ (fun b o q=>(ot b fun z=>by rw [z,t5] at q;clear h fl t9 z;exact no1 q).trans (k1 b o q)) (k2.of_keeps fun b o q nf=>let ⟨sl,q'⟩:=up b o q nf;⟨_,q',rfl⟩) ?_ up)
 exact ⟨⟨a0,_,oe,vs,T,_,_,(ot e (Ne.symm t6)).trans t1,t2,t3,t4,t5,t6,Heap.get?_update_self _ t7 (Obj.isFreed_of_fields (Obj.data_mapFields t8 _)),Obj.data_mapFields t8 _,by rw [Array.getElem?_setIfInBounds_self_of_lt sz]⟩,oe',vs',(ot e (Ne.symm t6)).trans c1,c2,c3⟩
theorem WF {env:Env} {outer:List Env} {L:Addr} {oe:Obj} {vs:Array Value} {head a0:Value} {hadNext:Bool} {Q:Unit->Shared->Prop}
  (hfr:A.frames=some (env::outer)) (hl:s.heap.FunFrames base (env::outer)) (hf:env.frame=some L)
  (he:s.heap.get? e=some oe) (hkb:base.StaysIn s.heap) (hen:base.get? e=none) (hd:oe.data=.fields vs) (hsz:1<vs.size) (h0:vs[0]?=some a0) (h2:vs[2]?=some .none)
  (h:∀ h',base.StaysIn h'->h'.FunFrames base (env::outer)->Trc h' base e oe.cls->s.heap.UpToSlots h'->Q () { s with heap:=h' }) :
  wpAny M A (do let a <- frameOf env;let pl <- entryPlaceOf L hadNext;let b <- EntryCells.newEntry head a .none (rawInt L) .none pl;setField (.ref e) 1 b) Q E s:=by
 have rec_ne:∀ b o,s.heap.get? b=some o->(∀ vs,o.data≠.fields vs)->b≠e:=fun b o hb nf q=>by
  rw [q,he] at hb;clear hadNext;obtain rfl:=sj hb;exact nf vs hd
 have hne:e ∉ (env::outer).filterMap (·.frame):=fun hm=>by
  refine zc (hl.mem hm) fun _ wz8=>?_;refine ob12 wz8 fun o ho nf=>?_;clear wz8
  exact rec_ne e o ho nf rfl
 refine wpAny_bind (wpAny_frameOf_fun hfr hl hf fun h₁ hs=>wpAny_bind (wpAny_entryPlaceOf fun pl hpl=>?_))
 unfold EntryCells.newEntry newFields
 refine wpAny_bind (wpAny_newObj_type ?_ (hpl.sizeOk5 _ _ _ _ _))
 have e1:h₁.get? e=some oe:=(hs.2.1 e hne).trans he
 have kb:base.StaysIn h₁:=fun b o q=>(hs.2.1 b fun hm=>by rw [(hl.mem hm).1] at q;clear hadNext hfr hf he hne hm;exact no1 q).trans (hkb b o q)
 have t3:([head,.ref L,.none,rawInt L,.none]++(if pl.isEmpty then List.replicate 6 Value.none else pl)).toArray[3]?=some (rawInt L):=by clear hadNext hfr hf he hkb hne;rcases hpl with rfl | ⟨_,_,_,_,_,_,_,rfl⟩ <;> rfl
 dsimp only
 generalize ([head,.ref L,.none,rawInt L,.none]++(if pl.isEmpty then List.replicate 6 Value.none else pl)).toArray=tb at t3
 have nT:h₁.objs.size≠e:=Nat.ne_of_gt (Heap.lt_size e1)
 refine wpAny_setField (s:={ s with heap:=h₁.push { cls:=.type "traceback",data:=.fields tb } }) (Heap.get?_push_of_some _ e1) hd hsz ?_
 have keep:∀ b o,b≠e->h₁.get? b=some o->((h₁.push { cls:=.type "traceback",data:=.fields tb }).update e (Obj.mapFields (·.setIfInBounds 1 (Value.ref h₁.objs.size)))).get? b=some o:=fun b o n q=>by
  rw [Heap.get?_update_other _ _ (Ne.symm n)];exact Heap.get?_push_of_some _ q
 have d3:=Obj.data_mapFields hd (·.setIfInBounds 1 (Value.ref h₁.objs.size))
 have e3:=Heap.get?_update_self (h:=h₁.push { cls:=.type "traceback",data:=.fields tb }) (Obj.mapFields (·.setIfInBounds 1 (Value.ref h₁.objs.size))) (Heap.get?_push_of_some _ e1) (Obj.isFreed_of_fields d3)
 refine h _ (fun b o q=>keep b o (fun z=>by rw [z,hen] at q;clear head hadNext hfr hf he hkb hen hd h hne pl hpl e1 z;exact no1 q) (kb b o q)) (hl.of_keeps fun b o q nf=>?_) ⟨⟨a0,rawInt L,_,_,h₁.objs.size,_,tb,e3,⟨Obj.cls_mapFields _ _,by rw [Array.getElem?_setIfInBounds_ne (by decide)];exact h0⟩,d3,by simp [hsz],kb.fresh,nT,
  (Heap.get?_update_other _ _ (Ne.symm nT)).trans (Heap.get?_push_size h₁ rfl),rfl,t3⟩,_,_,e3,d3,by rw [Array.getElem?_setIfInBounds_ne (by decide)];exact h2⟩ fun b o q nf=>?_
 ·refine ob11 (hs.2.2 b o q) fun sl hs=>?_
  exact ⟨_,keep b _ (rec_ne b o q nf) hs,rfl⟩
 ·refine ob11 (hs.2.2 b o q) fun sl hs=>?_
  exact ⟨sl,keep b _ (rec_ne b o q nf) hs⟩
theorem Vj {a b:Env} (h:a.frame=b.frame):frameOf a=frameOf b:=by unfold frameOf;rw [h]
theorem Jf {a b:Env} (h:a.frame=b.frame) (v:Value):noteFrame v a=noteFrame v b:=by unfold noteFrame;rw [h,Vj h]
theorem ux {env e0:Env} {outer:List Env} {Q:Unit->Shared->Prop} (hfr:A.frames=some (e0::outer)) (he:e0.frame=env.frame) (x:KY base (e0::outer) C e s.heap)
  (h:∀ h',base.StaysIn h'->h'.FunFrames base (e0::outer)->Trc h' base e (.ref C)->s.heap.UpToSlots h'->Q () { s with heap:=h' }):wpAny M A (noteFrame (.ref e) env) Q E s:=by
 rw [Jf he.symm]
 refine Kb x fun k1 k2 k3 k4=>?_;clear x
 refine ob23 k3.2.1 fun L oL hf _ _=>?_
 unfold noteFrame
 simp only [hf]
 clear env he;rcases k4 with w | w
 ·refine ob36 w fun oe vs a0 t1 t2 t3 t4 t5 c3=>?_;clear w
  refine wpAny_bind (wpAny_field t1 t3 t5 ?_)
  rw [if_neg (by decide)]
  exact WF hfr k3 hf t1 k1 k2 t3 (Array.getElem?_eq_some_iff.mp t5).1 t4 c3 fun h' n1 n2 n3 n4=>h h' n1 n2 (t2▸n3) n4
 ·refine ob21 w.1 fun a0 fl u=>?_
  refine ob58 u fun oe vs T oT ts t1 t2' t3 t4 t5 t6 t7 t8'=>?_;clear u
  refine ob23 w.2 fun oe' vs' c1 c2 c3=>?_
  have t2:=t2'.1
  have t0:=t2'.2
  have t8:=t8'.1
  have t9:=t8'.2
  refine wpAny_bind (wpAny_field t1 t3 t4 ?_)
  rw [if_pos (show (Value.ref T != Value.none)=true by simp)]
  refine wpAny_bind (wpAny_field t7 t8 t9 ?_)
  by_cases q:(fl==rawInt L)=true
  ·rw [if_pos q]
   exact wpAny_pure (h s.heap k1 k3 w (Heap.UpToSlots.refl _))
  ·rw [if_neg q]
   have ot:∀ b,b≠T->(s.heap.update T (Obj.mapFields (·.setIfInBounds 3 Value.none))).get? b=s.heap.get? b:=fun b q=>Heap.get?_update_other _ _ (Ne.symm q)
   have up:s.heap.UpToSlots (s.heap.update T (Obj.mapFields (·.setIfInBounds 3 Value.none))):=fun b o q nf=>⟨o.slots,(ot b fun z=>by rw [z,t7] at q;clear w t2' t8';obtain rfl:=sj q;exact nf ts t8).trans q⟩
   refine wpAny_bind (wpAny_setField t7 t8 (Array.getElem?_eq_some_iff.mp t9).1 ?_)
   rw [t1] at c1;clear w oT ts t2' t7 t8' t8 t9;obtain rfl:=sj c1;rw [t3] at c2;cases c2
   refine WF hfr (k3.of_keeps fun b o q nf=>let ⟨sl,q'⟩:=up b o q nf;⟨_,q',rfl⟩) hf ((ot e (Ne.symm t6)).trans t1) (fun b o q=>(ot b fun z=>by rw [z,t5] at q;clear hfr k3 hf t1 t5 t6 ot z;exact no1 q).trans (k1 b o q)) k2 t3 (Array.getElem?_eq_some_iff.mp t4).1 t0 c3
    fun h' n1 n2 n3 n4=>h h' n1 n2 (t2▸n3) (up.trans n4)
theorem Xm {env:Env} {outer:List Env} {Q:Unit->Shared->Prop} (hfr:A.frames=some (env::outer)) (x:KY base (env::outer) C e s.heap)
  (h:∀ h',KY base outer C e h'->s.heap.UpToSlots h'->Q () { s with heap:=h' }):wpAny M A (leaving env (.ref e)) Q E s:=by
 unfold leaving
 refine wpAny_bind (ux hfr rfl x fun h1 k1 k2 k3 k4=>?_)
 exact xL (s:={ s with heap:=h1 }) k1 k2 k3 fun h2 n1 n2 n3 n4=>h h2 ⟨n1,x.2.1,n2.2.2,.inr n3⟩ (k4.trans n4)
variable {B:Heap} {X:XE} {I:Own->Heap->Prop} {P:Lbs} {o:Own} {c:Nat} {env:Env}
noncomputable def Th (A:Around) (l:List Env) (env:Env):Prop:=A.frames=some l/\∃ e0 outer,l=e0::outer/\e0.frame=env.frame
theorem PX.ofNoted {l:List Env} {R:Value->Shared->Prop} (hh:Th A l env)
  (k:∀ o' h' tk e base,HBx B o' base->yz B c->I o' base->qf P o o' s.heap base h'->base.StaysIn h'->base.get? e=none->h'.FunFrames base l->Trc h' base e (.ref (yV B c))->R (.ref e) (up s h' tk)) :
  PX B ⟨l,notedBy M A env R⟩ I P o s c:=fun o' h' tk e base r xc i st x=>by
 refine zc hh fun hfr wz3=>?_;clear hh;refine ob22 wz3 fun e0 outer ez6x2 he=>?_;clear wz3;subst ez6x2
 exact ux (s:=up s h' tk) hfr he x fun h2 n1 n2 n3 n4=>k o' h2 tk e base r xc i (st.hop x.1 n1 n4) n1 x.2.1 n2 n3
theorem Xy {cls:Value} (k1:base.StaysIn s.heap) (k2:s.heap.FunFrames base l) (t:Trc s.heap base e cls)
  (h:∀ h',base.StaysIn h'->h'.FunFrames base l->Trc h' base e cls->s.heap.UpToSlots h'->E (.ref e) { s with heap:=h' }):cameBackBy M A env E (.ref e) s:=by
 refine ob75 t.1 fun _ _ oe vs T oT ts t1 t2 t3 t4 _=>?_
 unfold cameBackBy
 refine wpAny_bind (wpAny_field t1 t3 t4 ?_)
 rw [if_neg (by simp)]
 exact xL k1 k2 t h
theorem PX.back (p:PX B X I P o s c) (hh:Th A X.l env):PX B ⟨X.l,notedBy M A env (cameBackBy M A env X.E)⟩ I P o s c :=
 PX.ofNoted hh fun o' h' tk e base r xc i st n1 n0 n2 n3=>Xy (s:=up s h' tk) n1 n2 n3 fun h3 m1 m2 m3 m4=>p o' h3 tk e base r xc i (st.hop n1 m1 m4) ⟨m1,n0,m2,.inr m3⟩
end
open Classical in
noncomputable def oC (o:Own) (P:Addr->Prop):Own:=fun a=>if P a then some (bL,[]) else o a
theorem Qp {o:Own} {P:Addr->Prop} {a:Addr} (p:P a):oC o P a=some (bL,[]):=if_pos p
theorem kD {o:Own} {P:Addr->Prop} {a:Addr} (p:¬ P a):oC o P a=o a:=if_neg p
theorem v9 {o:Own} {P:Addr->Prop} {a:Addr} (e:oC o P a=none):¬ P a/\o a=none:=by
 by_cases p:P a
 ·exact no2 (Eq.trans (Eq.symm (Qp p)) e)
 ·exact ⟨p,(kD p).symm.trans e⟩
theorem yH.oC {o:Own} {P:Addr->Prop} (k:yH o):yH (Mine.oC o P):=fun a x p e z=>by
 by_cases q:P a
 ·obtain ⟨rfl,rfl⟩:=pj (sj (Eq.trans (Eq.symm (Qp q)) e));rfl
 ·rw [kD q] at e;exact k a x p e z
structure Su where
 n:Nat
 prog:Program
 w:World
 B:Heap
 sc:Scope
 sm:List (Str × Nat)
 G:Nat->Sg
 C:VC
 g:Sg
 np:Nat
structure Fr where
 env:Env
 A:Around
 X:XE
 vs:List Value
 o0:Own
noncomputable abbrev Su.M (S:Su):Model:=model S.prog S.w
noncomputable abbrev Su.E (S:Su) (m:za):VS->Ex Tr:=(zK S.G S.g.sh S.C m).E
noncomputable abbrev Su.c (S:Su) (m:za):Sh:=Mine.cls S.g.sh m
structure VL (B:Heap) (g:Sg) (vs:List Value) (o:Own) (ρ:VS) (u:List (Option Value)) (h:Heap):Prop where
 len:u.length=ρ.length
 small:ρ.length<=bB
 get:∀ (x:Nat) t,ρ[x]?=some (some t)->∃ v,u[x]?=some (some v)/\Rd B h (cO o x (g.sh.getD x .i)) t v
 par:∀ (j:Nat) s,g.ps[j]?=some s->s.own=true->∃ t v,ρ[j]?=some (some t)/\vs[j]?=some v/\u[j]?=some (some v)
noncomputable def Bnd (env:Env) (sm:List (Str × Nat)) (u:List (Option Value)) (h:Heap):Prop :=
 ∀ (x:Str) (i:Nat) (v:Value),jL (env.kindOf x)=true->sm.lookup x=some i->u[i]?=some (some v)->yG env h x v
structure Cx (S:Su) (f:Fr) (ρ:VS) (o:Own) (h:Heap):Prop where
 scope:f.env.scope=S.sc
 ok:AOk S.n f.A
 frm:Frm f.env h
 vars:∀ (x:Str) (i:Nat) (t:Tr),jL (f.env.kindOf x)=true->S.sm.lookup x=some i->ρ[i]?=some (some t)->∃ v,yG f.env h x v/\Rd S.B h (cS o (S.g.sh.getD i .i)) t v
 rel:HB S.B o h
 flo:yH o
 frames:f.A.frames=some f.X.l
 fok:JF S.B f.X.l o h
 here:∃ e0 outer,f.X.l=e0::outer/\e0.frame=f.env.frame
 apart:∀ e,e∈f.X.l->∀ L,e.frame=some L->∀ x,f.env.cells.lookup x≠some L
noncomputable def KL (S:Su) (f:Fr) (o:Own):Prop:=∀ a j p,f.o0 a=some (j,p)->j<S.g.ps.length->j<bB->o a=some (j,p)
structure CxS (S:Su) (f:Fr) (ρ:VS) (o:Own) (h:Heap):Prop where
 cx:Cx S f ρ o h
 lab:Lab f.env o
 kl:KL S f o
 vl:∃ u,Bnd f.env S.sm u h/\VL S.B S.g f.vs o ρ u h
section
variable {S:Su} {f:Fr} {ρ:VS} {o:Own} {s:Shared} {h h':Heap}
theorem VL.grow {B:Heap} {g:Sg} {vs:List Value} {u:List (Option Value)} (r:VL B g vs o ρ u h) (k:zA h h'):VL B g vs o ρ u h':=⟨r.len,r.small,fun x t e=>(r.get x t e).imp fun _ z=>⟨z.1,z.2.grow k⟩,r.par⟩
theorem Cx.grow (c:Cx S f ρ o h) (r:HB S.B o h') (g:zA h h'):Cx S f ρ o h' :=
 have k:xw f.env h h':=fun b ob _ e=>g b ob e
 ⟨c.scope,c.ok,c.frm.at k,fun x i t a b e=>(c.vars x i t a b e).imp fun _ z=>⟨z.1.kept k,z.2.grow g⟩,r,c.flo,c.frames,c.fok.step (zA.step g),c.here,c.apart⟩
theorem CxS.grow (c:CxS S f ρ o h) (r:HB S.B o h') (g:zA h h'):CxS S f ρ o h' :=
 ⟨c.cx.grow r g,c.lab,c.kl,c.vl.imp fun _ z=>⟨fun x i v a b e=>(z.1 x i v a b e).kept fun b ob _ e=>g b ob e,z.2.grow g⟩⟩
theorem Cx.kind (c:Cx S f ρ o h) (x:Str):f.env.kindOf x=S.sc.names.lookup x:=by
 unfold Env.kindOf;rw [c.scope]
theorem ZQ {x:Nat} {s:Sh} {p:List Nat} {a:Addr} (q:cO o x s p a):cS o s p a:=by
 have z:∀ b:Bool,o a=cond b (some (x,p)) none->(match b with | true=>True | false=>o a=none):=fun b e=>by
  cases b
  ·exact e
  ·trivial
 cases s with
 |b=>exact q
 |i=>exact q
 |u=>trivial
 | _=>exact z _ q
theorem Cx.get {x:Str} {i:Nat} {t:Tr} (c:Cx S f ρ o h) (h1:jL (f.env.kindOf x)=true) (h2:S.sm.lookup x=some i) (e:ρ[i]?=some (some t)):∃ v,yG f.env h x v/\Rd S.B h (cS o (S.g.sh.getD i .i)) t v:=c.vars x i t h1 h2 e
theorem Cx.ofVL {u:List (Option Value)} (b:Bnd f.env S.sm u h) (r:VL S.B S.g f.vs o ρ u h):∀ (x:Str) (i:Nat) (t:Tr),jL (f.env.kindOf x)=true->S.sm.lookup x=some i->ρ[i]?=some (some t)->∃ v,yG f.env h x v/\Rd S.B h (cS o (S.g.sh.getD i .i)) t v:=fun x i t h1 h2 e =>
 let ⟨v,e1,e2⟩:=r.get i t e
 ⟨v,b x i v h1 h2 e1,e2.to fun _ _=>ZQ⟩
noncomputable def Po {α β:Type} (S:Su) (f:Fr) (o:Own) (V:Heap->α->β->Prop) (Q:β->Shared->Prop) (s:Shared):Ex α->Prop
 | .ok a=>∀ w h' tk,HB S.B o h'->zA s.heap h'->V h' a w->Q w (up s h' tk)
 | .exc c=>PX S.B f.X (fun o' _=>o'=o) KW o s c
 | .stuck=>False
noncomputable def IO (S:Su) (f:Fr) (ρ:VS) (o:Own) (h:Heap):Prop:=yH o/\KL S f o/\∀ (j:Nat) s,S.g.ps[j]?=some s->s.own=true->∃ t v,ρ[j]?=some (some t)/\f.vs[j]?=some v/\Rd S.B h (cL o j s) t v
noncomputable def Pv {α β:Type} (S:Su) (f:Fr) (P:Lbs) (V:Own->Heap->α->β->Prop) (o:Own) (Q:β->Shared->Prop) (s:Shared):VR α->Prop
 | .ok a ρ'=>∀ o' w h' tk,CxS S f ρ' o' h'->zC P o o' s.heap h'->V o' h' a w->Q w (up s h' tk)
 | .exc c ρ'=>PX S.B f.X (IO S f ρ') P o s c
 | .stuck=>False
noncomputable abbrev RV (S:Su) (c:Cl):Heap->Tr->Value->Prop:=fun h=>Rd S.B h c
noncomputable def RW (S:Su) (o:Own) (h0:Heap):Heap->Tr->Value->Prop:=fun h t v=>match t with
 | .sc x=>ScR x v
 | .nd k ts=>∃ a ys n,k=.lst/\v=.ref a/\h0.get? a=none/\o a=none/\h.get? a=some (zf ys n)/\ys.length<=lim/\A2 (Rd S.B h (imm (oC o fun b=>b=a))) ts ys
noncomputable abbrev RB:Heap->Bool->Bool->Prop:=fun _ a b=>a=b
section
variable {α β γ δ:Type} {W:Heap->γ->δ->Prop} {V:Heap->α->β->Prop} {Q:β->Shared->Prop} {Q':δ->Shared->Prop} {v:α} {w:β} {tk:Nat}
theorem Po.here (p:Po S f o V Q s (.ok v)) (r:HB S.B o s.heap) (hv:V s.heap v w):Q w (up s s.heap tk):=p w s.heap tk r (fun _ _ e=>e) hv
theorem Po.here' (p:Po S f o V Q s (.ok v)) (r:HB S.B o s.heap) (hv:V s.heap v w):Q w s:=p w s.heap s.toks r (fun _ _ e=>e) hv
theorem Po.push (p:Po S f o V Q s (.ok v)) (r:HB S.B o s.heap) (k:∀ b ob,s.heap.get? b=some ob->h'.get? b=some ob) (hv:V h' v w):Q w (up s h' tk):=p w h' tk (r.grow k) (fun b _ e=>zb (k b) e) hv
theorem Po.step {x:Ex α} (p:Po S f o V Q s x) (st:zA s.heap h'):Po S f o V Q (up s h' tk) x:=by
 cases x with
 |ok v=>exact fun w h'' tk' r st' hv=>p w h'' tk' r (fun b ob e=>st' b ob (st b ob e)) hv
 |exc c=>exact PX.step p (zA.step st)
 |stuck=>exact p
theorem Po.bind {r:Ex γ} {g:γ->Ex α} (p:Po S f o V Q s (r.bind g))
  (k:∀ v v' h1 tk,HB S.B o h1->zA s.heap h1->W h1 v v'->Po S f o V Q (up s h1 tk) (g v)->Q' v' (up s h1 tk)):Po S f o W Q' s r:=by
 cases r with
 |ok v=>exact fun v' h1 tk r st hv=>k v v' h1 tk r st hv (Po.step (x:=g v) p st)
 |exc c=>exact p
 |stuck=>exact p
theorem Po.cond {b:Bool} {x:Ex α} (p:Po S f o V Q s (cond b x .stuck)):b=true/\Po S f o V Q s x:=by
 cases b with
 |true=>exact ⟨rfl,p⟩
 |false=>exact p.elim
theorem Po.ite {c:Prop} [Decidable c] {x:Ex α} (p:Po S f o V Q s (if c then x else .stuck)):c/\Po S f o V Q s x:=by
 by_cases q:c
 ·rw [if_pos q] at p;exact ⟨q,p⟩
 ·rw [if_neg q] at p;exact p.elim
theorem Po.opt {x:Option α} (p:Po S f o V Q s (Ex.opt x)):∃ a,x=some a/\Po S f o V Q s (.ok a):=by
 cases x with
 |none=>exact p.elim
 |some a=>exact ⟨a,rfl,p⟩
end
end
theorem qb {h h':Heap} {b:Addr} (g:zA h h') (e:h'.get? b=none):h.get? b=none:=by
 cases q:h.get? b with
 |none=>rfl
 |some ob=>refine ob12 (zp (g b _ (zm q))) fun o' z _=>?_;exact no1 (e.symm.trans z)
theorem RW.older {S:Su} {o:Own} {h0 h1 h:Heap} {t:Tr} {v:Value} (g:zA h0 h1) (r:RW S o h1 h t v):RW S o h0 h t v:=by
 cases t with
 |sc x=>exact r
 |nd k ts=>refine ob34 r fun a ys n e1 e2 e3 e=>?_;clear r;exact ⟨a,ys,n,e1,e2,qb g e3,e⟩
theorem RW.rd {S:Su} {o:Own} {h0 h:Heap} {t:Tr} {v:Value} (r:RW S o h0 h t v):Rd S.B h (imm o) t v:=by
 cases t with
 |sc x=>exact .sc r
 |nd k ts =>
  refine ob37 r fun a ys n ez2x3 ez2x4 _ e4 e5 e6 e7=>?_;clear r;subst ez2x3;subst ez2x4
  exact Rd.new (Q:=fun a=>o a=none) e4 ⟨e6,n,e5⟩ (e7.imp fun _ _ z=>z.to fun _ _ q=>(v9 q).2)
theorem Po.to {S:Su} {f:Fr} {o:Own} {s:Shared} {α β:Type} {V W:Heap->α->β->Prop} {Q:β->Shared->Prop} {x:Ex α} (p:Po S f o V Q s x) (k:∀ h a b,W h a b->V h a b):Po S f o W Q s x:=by
 cases x with
 |ok a=>exact fun w h' tk r g v=>p w h' tk r g (k _ _ _ v)
 | _=>exact p
section
variable {S:Su} {f:Fr} {ρ:VS} {o:Own} {s:Shared}
noncomputable def AL (S:Su) (o:Own):List Sh->Heap->List Tr->List Value->Prop
 | [],h,ts,vs=>ts=[]/\vs=[]
 |c::cs,h,ts,vs=>∃ t ts' v vs',ts=t::ts'/\vs=v::vs'/\Rd S.B h (cS o c) t v/\AL S o cs h ts' vs'
theorem AL.grow {h h':Heap} (g:zA h h') {cs:List Sh}:∀ {ts:List Tr} {vs:List Value},AL S o cs h ts vs->AL S o cs h' ts vs:=by
 induction cs with
 |nil=>exact fun r=>r
 |cons c cs ih=>exact fun r=>Exists.imp (fun t r=>Exists.imp (fun ts' r=>Exists.imp (fun v r=>Exists.imp (fun vs' r=>⟨r.1,r.2.1,r.2.2.1.grow g,ih r.2.2.2⟩) r) r) r) r
noncomputable def SE (S:Su) (m:za) (e:Expr):Prop :=
 ∀ {f:Fr} {ρ:VS} {o:Own} {s:Shared} {Q:Value->Shared->Prop},Cx S f ρ o s.heap->Po S f o (RV S (cS o (S.c m))) Q s (S.E m ρ)->wpAny S.M f.A (eval e f.env) Q f.X.E s
noncomputable def ST (S:Su) (m:za) (e:Expr):Prop :=
 ∀ {f:Fr} {ρ:VS} {o:Own} {s:Shared} {Q:Bool->Shared->Prop},Cx S f ρ o s.heap->Po S f o RB Q s ((S.E m ρ).bind fun t=>Ex.opt (zd t))->wpAny S.M f.A (isTrue e f.env (eval e f.env)) Q f.X.E s
noncomputable def SS (S:Su) (m:za) (es:List Expr):Prop :=
 ∀ {f:Fr} {ρ:VS} {o:Own} {s:Shared} {Q:List Value->Shared->Prop} (pos:Pos),Cx S f ρ o s.heap->Po S f o (AL S o (jQ S.g.sh m)) Q s ((zK S.G S.g.sh S.C m).Es ρ)->wpAny S.M f.A (spliced (backTo pos (starEach es f.env))) Q f.X.E s
noncomputable def SR (S:Su) (m:za) (e:Expr):Prop :=
 ∀ {f:Fr} {ρ:VS} {o:Own} {s:Shared} {Q:Value->Shared->Prop},Cx S f ρ o s.heap->Po S f o (RW S o s.heap) Q s (S.E m ρ)->wpAny S.M f.A (eval e f.env) Q f.X.E s
theorem SR.se {m:za} {e:Expr} (h:SR S m e) (c:S.c m=.i:=by rfl):SE S m e:=fun cx p=>h cx (p.to fun _ _ _ z=>c▸z.rd)
theorem SE.bind {α β:Type} {m:za} {e:Expr} {V:Heap->α->β->Prop} {Q:β->Shared->Prop} {Q':Value->Shared->Prop} {g:Tr->Ex α} (h:SE S m e) (cx:Cx S f ρ o s.heap) (p:Po S f o V Q s ((S.E m ρ).bind g))
  (k:∀ t v h1 tk,HB S.B o h1->zA s.heap h1->Rd S.B h1 (cS o (S.c m)) t v->Po S f o V Q (up s h1 tk) (g t)->Q' v (up s h1 tk)):wpAny S.M f.A (eval e f.env) Q' f.X.E s:=h cx (p.bind k)
theorem ST.bind {α β:Type} {m:za} {e:Expr} {V:Heap->α->β->Prop} {Q:β->Shared->Prop} {Q':Bool->Shared->Prop} {g:Bool->Ex α} (h:ST S m e) (cx:Cx S f ρ o s.heap) (p:Po S f o V Q s ((S.E m ρ).bind fun t=>(Ex.opt (zd t)).bind g))
  (k:∀ b h1 tk,HB S.B o h1->zA s.heap h1->Po S f o V Q (up s h1 tk) (g b)->Q' b (up s h1 tk)):wpAny S.M f.A (isTrue e f.env (eval e f.env)) Q' f.X.E s :=
 h cx (Po.bind (r:=(S.E m ρ).bind fun t=>Ex.opt (zd t)) (g:=g) (by cases q:S.E m ρ <;> rw [q] at p <;> exact p) fun b b' h1 tk r st e q=>by rw [<- show b=b' from e];exact k b h1 tk r st q)
theorem SS.bind {α β:Type} {m:za} {es:List Expr} {V:Heap->α->β->Prop} {Q:β->Shared->Prop} {Q':List Value->Shared->Prop} {g:List Tr->Ex α} {pos:Pos} (h:SS S m es) (cx:Cx S f ρ o s.heap) (p:Po S f o V Q s (((zK S.G S.g.sh S.C m).Es ρ).bind g))
  (k:∀ ts vs h1 tk,HB S.B o h1->zA s.heap h1->AL S o (jQ S.g.sh m) h1 ts vs->Po S f o V Q (up s h1 tk) (g ts)->Q' vs (up s h1 tk)):wpAny S.M f.A (spliced (backTo pos (starEach es f.env))) Q' f.X.E s:=h pos cx (p.bind k)
end
end Mine
namespace Mine
open PySem PySem.SeqAt
theorem uJ {v:Val} {b:Bool} (h:eqP v v=some b):b=true:=by
 cases v with
 |none=>obtain rfl:=sj h;rfl
 |bool a=>have h:some (a==a)=some b:=h;rw [beq_self_eq_true] at h;obtain rfl:=sj h;rfl
 |int a=>have h:some (a==a)=some b:=h;rw [beq_self_eq_true] at h;obtain rfl:=sj h;rfl
 |str a=>have h:some (a==a)=some b:=h;rw [beq_self_eq_true] at h;obtain rfl:=sj h;rfl
theorem zn {h:Heap} {a:Addr} {ys:List Value} {n:Nat} (e:h.get? a=some (zf ys n)):h.IsList a ys.toArray:=⟨_,e,rfl,n,rfl⟩
theorem yN {h:Heap} {a:Addr} {ys:List Value} {n:Nat} (e:h.get? a=some (qq ys n)):h.IsTuple a ys.toArray:=⟨_,e,rfl,n,rfl⟩
theorem Gm (a b:List Nat):((⟨a.toArray⟩:Str)==⟨b.toArray⟩)=(a==b):=by
 rw [Bool.eq_iff_iff];simp
noncomputable def Z7 (A:Around) (s:Shared) (v w:Value) (b:Bool):Prop:=RcAt A s v w b/\EqAt A s v w b/\RcNeAt A s v w (!b)
theorem Zv {A:Around} {s:Shared} {v w:Val} {v' w':Value} {b:Bool} (hv:ScR v v') (hw:ScR w w') (h:eqP v w=some b):Z7 A s v' w' b:=by
 cases v <;> cases w <;> first | (exact (Option.noConfusion h)) | skip
 all_goals simp only [ScR] at hv hw
 all_goals first
  | (obtain ⟨_,t,rfl⟩:=hv;obtain ⟨_,u,rfl⟩:=hw)
  | (obtain ⟨_,t,rfl⟩:=hv;obtain ⟨u,rfl⟩:=hw)
  | (obtain ⟨_,t,rfl⟩:=hv;subst hw)
  | (obtain ⟨t,rfl⟩:=hv;obtain ⟨_,u,rfl⟩:=hw)
  | (subst hv;obtain ⟨_,u,rfl⟩:=hw)
  | (obtain ⟨t,rfl⟩:=hv;obtain ⟨u,rfl⟩:=hw)
  | (obtain ⟨t,rfl⟩:=hv;subst hw)
  | (subst hv;obtain ⟨u,rfl⟩:=hw)
  | (subst hv;subst hw)
 all_goals cases h
 ·exact ⟨RcAt.none_none,EqAt.same _,RcNeAt.none_none⟩
 ·exact ⟨RcAt.none_bool _,EqAt.none_bool _,RcNeAt.none_bool _⟩
 ·exact ⟨RcAt.none_int _ _,EqAt.none_int _ _,RcNeAt.none_int _ _⟩
 ·exact ⟨RcAt.none_str _ _,EqAt.none_str _ _,RcNeAt.none_str _ _⟩
 ·exact ⟨RcAt.bool_none _,EqAt.bool_none _,RcNeAt.bool_none _⟩
 ·exact ⟨RcAt.bool_bool _ _,EqAt.bool_bool _ _,RcNeAt.bool_bool _ _⟩
 ·exact ⟨RcAt.bool_int _ _ _,EqAt.bool_int _ _ _,RcNeAt.bool_int _ _ _⟩
 ·exact ⟨RcAt.bool_str _ _ _,EqAt.bool_str _ _ _,RcNeAt.bool_str _ _ _⟩
 ·exact ⟨RcAt.int_none _ _,EqAt.int_none _ _,RcNeAt.int_none _ _⟩
 ·exact ⟨RcAt.int_bool _ _ _,EqAt.int_bool _ _ _,RcNeAt.int_bool _ _ _⟩
 ·exact ⟨RcAt.int_int _ _ _ _,EqAt.int_int _ _ _ _,RcNeAt.int_int _ _ _ _⟩
 ·exact ⟨RcAt.int_str _ _ _ _,EqAt.int_str _ _ _ _,RcNeAt.int_str _ _ _ _⟩
 ·exact ⟨RcAt.str_none _ _,EqAt.str_none _ _,RcNeAt.str_none _ _⟩
 ·exact ⟨RcAt.str_bool _ _ _,EqAt.str_bool _ _ _,RcNeAt.str_bool _ _ _⟩
 ·exact ⟨RcAt.str_int _ _ _ _,EqAt.str_int _ _ _ _,RcNeAt.str_int _ _ _ _⟩
 ·rename_i a c _ _
  have:=Gm a c
  exact ⟨by rw [<- this];exact RcAt.str_str _ _ _ _,by rw [<- this];exact EqAt.str_str _ _ _ _,by rw [<- this];exact RcNeAt.str_str _ _ _ _⟩
theorem Qr {A:Around} {s:Shared} {a:Addr} {v:Val} {v':Value} (x:(∃ ys,s.heap.IsList a ys)\/(∃ ys,s.heap.IsTuple a ys)) (hu:A.units<cLine) (hv:ScR v v') :
  Z7 A s (.ref a) v' false/\Z7 A s v' (.ref a) false:=by
 cases v with
 |none =>
  rw [show v'=_ from hv]
  rcases x with ⟨_,x⟩ | ⟨_,x⟩
  ·exact ⟨⟨RcAt.list_none x hu,EqAt.list_none x hu,RcNeAt.list_none x hu⟩,⟨RcAt.none_list x hu,EqAt.none_list x hu,RcNeAt.none_list x hu⟩⟩
  ·exact ⟨⟨RcAt.tuple_none x hu,EqAt.tuple_none x hu,RcNeAt.tuple_none x hu⟩,⟨RcAt.none_tuple x hu,EqAt.none_tuple x hu,RcNeAt.none_tuple x hu⟩⟩
 |bool b =>
  rw [show v'=_ from hv]
  rcases x with ⟨_,x⟩ | ⟨_,x⟩
  ·exact ⟨⟨RcAt.list_bool _ x hu,EqAt.list_bool _ x hu,RcNeAt.list_bool _ x hu⟩,⟨RcAt.bool_list _ x hu,EqAt.bool_list _ x hu,RcNeAt.bool_list _ x hu⟩⟩
  ·exact ⟨⟨RcAt.tuple_bool _ x hu,EqAt.tuple_bool _ x hu,RcNeAt.tuple_bool _ x hu⟩,⟨RcAt.bool_tuple _ x hu,EqAt.bool_tuple _ x hu,RcNeAt.bool_tuple _ x hu⟩⟩
 |int b =>
  obtain ⟨t,rfl⟩:=hv
  rcases x with ⟨_,x⟩ | ⟨_,x⟩
  ·exact ⟨⟨RcAt.list_int _ _ x hu,EqAt.list_int _ _ x hu,RcNeAt.list_int _ _ x hu⟩,⟨RcAt.int_list _ _ x hu,EqAt.int_list _ _ x hu,RcNeAt.int_list _ _ x hu⟩⟩
  ·exact ⟨⟨RcAt.tuple_int _ _ x hu,EqAt.tuple_int _ _ x hu,RcNeAt.tuple_int _ _ x hu⟩,⟨RcAt.int_tuple _ _ x hu,EqAt.int_tuple _ _ x hu,RcNeAt.int_tuple _ _ x hu⟩⟩
 |str b =>
  refine zc hv fun _ wz9=>?_;clear hv;obtain ⟨t,rfl⟩:=wz9
  rcases x with ⟨_,x⟩ | ⟨_,x⟩
  ·exact ⟨⟨RcAt.list_str _ _ x hu,EqAt.list_str _ _ x hu,RcNeAt.list_str _ _ x hu⟩,⟨RcAt.str_list _ _ x hu,EqAt.str_list _ _ x hu,RcNeAt.str_list _ _ x hu⟩⟩
  ·exact ⟨⟨RcAt.tuple_str _ _ x hu,EqAt.tuple_str _ _ x hu,RcNeAt.tuple_str _ _ x hu⟩,⟨RcAt.str_tuple _ _ x hu,EqAt.str_tuple _ _ x hu,RcNeAt.str_tuple _ _ x hu⟩⟩
theorem jD.lists {B h:Heap} {c:Cl} {a:Addr} {k:K} {ys:List Value} (e:k.seq=some true) (r:jD B h c a k ys):ys.length<=lim/\∃ n,h.get? a=some (zf ys n):=by
 cases k with
 |lst=>exact r
 |ro=>exact r
 | _=>clear c r;cases e
theorem jD.tups {B h:Heap} {c:Cl} {a:Addr} {k:K} {ys:List Value} (e:k.seq=some false) (r:jD B h c a k ys):ys.length<=lim/\∃ n,h.get? a=some (qq ys n):=by
 cases k with
 |tup=>exact r
 | _=>clear c r;cases e
theorem jD.seqs {B h:Heap} {c:Cl} {a:Addr} {k:K} {ys:List Value} {l:Bool} (e:k.seq=some l) (r:jD B h c a k ys):(∃ zs,h.IsList a zs)\/(∃ zs,h.IsTuple a zs):=by
 cases l with
 |true=>exact .inl ⟨_,zn (r.lists e).2.choose_spec⟩
 |false=>exact .inr ⟨_,yN (r.tups e).2.choose_spec⟩
theorem xW {f:Tr->Tr->Option Bool}:∀ {xs ys:List Tr} {b:Bool},JR f xs ys=some b->xs.length=ys.length ->
  ∃ e:Nat->Bool,(∀ (j:Nat) x y,xs[j]?=some x->ys[j]?=some y->f x y=some (e j))/\b=(List.range xs.length).all e
 | [],[],b,h,_=>⟨fun _=>true,(fun _ _ _ q=>nomatch q),(Option.some.inj h).symm⟩
 |x::xs,y::ys,b,h,l=>by
  refine ob12 (bind_eq_some_iff.mp h) fun c hc h=>?_
  refine ob12 (map_eq_some_iff.mp h) fun d hd ez7x2=>?_;clear h;subst ez7x2
  refine ob12 (xW hd (Nat.succ.inj l)) fun g h1 ez8x2=>?_;clear h hd;subst ez8x2
  refine ⟨fun j=>match j with | 0=>c | j+1=>g j,fun j x' y' q r=>?_,?_⟩
  ·cases j with
   |zero=>obtain rfl:=sj q;obtain rfl:=sj r;exact hc
   |succ j=>exact h1 j x' y' q r
  ·rw [length_cons,range_succ_eq_map,all_cons,all_map];rfl
 | [],_::_,_,_,l=>nomatch l
 | _::_,[],_,_,l=>nomatch l
theorem X6 {n:Nat} {x y:Val} {b:Bool} (h:tEq n (.sc x) (.sc y)=some b):eqP x y=some b:=by
 cases n <;> exact h
theorem ScR.inj {x y:Val} {v:Value} {b:Bool} (r:ScR x v) (q:ScR y v) (h:eqP x y=some b):b=true:=by
 cases x with
 |none=>cases (show v=_ from r);cases y with
  |none=>obtain rfl:=sj h;rfl
  |bool=>cases q
  |int=>obtain ⟨_,q⟩:=q;cases q
  |str=>refine zc q fun _ wz9=>?_;clear q;obtain ⟨_,q⟩:=wz9;cases q
 |bool a=>cases (show v=_ from r);cases y with
  |none=>cases q
  |bool=>cases q;exact uJ h
  |int=>obtain ⟨_,q⟩:=q;cases q
  |str=>refine zc q fun _ wz10=>?_;clear q;obtain ⟨_,q⟩:=wz10;cases q
 |int a=>obtain ⟨t,rfl⟩:=r;cases y with
  |none=>cases q
  |bool=>cases q
  |int=>obtain ⟨_,q⟩:=q;cases q;exact uJ h
  |str=>refine zc q fun _ wz11=>?_;clear q;obtain ⟨_,q⟩:=wz11;cases q
 |str a=>refine zc r fun _ wz12=>?_;clear r;obtain ⟨t,rfl⟩:=wz12;cases y with
  |none=>cases q
  |bool=>cases q
  |int=>obtain ⟨_,q⟩:=q;cases q
  |str y =>
   refine zc q fun _ wz13=>?_;clear q;obtain ⟨_,q⟩:=wz13
   have z:a=y:=by injection q with q _;injection q with q;exact toArray_inj q
   clear q;subst z;exact uJ h
theorem Ku {f:Tr->Tr->Option Bool} {R R':Tr->Value->Prop} (k:∀ t u v b,R t v->R' u v->f t u=some b->b=true):∀ {ts us:List Tr} {vs:List Value} {b:Bool},A2 R ts vs->A2 R' us vs->JR f ts us=some b->b=true
 | [],_,_,_,_,_,e=>by obtain rfl:=sj e;rfl
 | _::_,[],_,_,_,_,e=>by obtain rfl:=sj e;rfl
 |t::ts,u::us,_,b,⟨w,ws,e1,r,rs⟩,⟨w',ws',e2,q,qs⟩,e=>by
  subst e1;cases e2
  refine ob12 (bind_eq_some_iff.mp e) fun c hc h=>?_
  refine ob12 (map_eq_some_iff.mp h) fun d hd ez15x2=>?_;clear h;subst ez15x2
  rw [k t u w c r q hc,Ku k rs qs hd];rfl
theorem WE {B h:Heap}:∀ {n:Nat} {t u:Tr} {v:Value} {b:Bool},Rd B h any t v->Rd B h any u v->tEq n t u=some b->b=true
 |n,.sc x,.sc y,v,b,r,q,e=>r.isSc.inj q.isSc (X6 e)
 | 0,.sc _,.nd _ _,v,b,r,q,e=>nomatch e
 | 0,.nd _ _,_,v,b,r,q,e=>nomatch e
 |n+1,.sc x,.nd k us,v,b,r,q,e=>by
  refine ob22 q.items fun a vs ez16x2 _=>?_;subst ez16x2
  cases x with
  |int=>obtain ⟨_,z⟩:=r.isSc;cases z
  |str=>refine zc r.isSc fun _ wz17=>?_;obtain ⟨_,z⟩:=wz17;cases z
  | _=>cases r.isSc
 |n+1,.nd k us,.sc x,v,b,r,q,e=>by
  refine ob22 r.items fun a vs ez18x2 _=>?_;subst ez18x2
  cases x with
  |int=>obtain ⟨_,z⟩:=q.isSc;cases z
  |str=>refine zc q.isSc fun _ wz19=>?_;obtain ⟨_,z⟩:=wz19;cases z
  | _=>cases q.isSc
 |n+1,.nd k ts,.nd l us,v,b,r,q,e=>by
  refine ob23 r.items fun a vs ez20x2 o1 r1=>?_;subst ez20x2
  refine ob23 q.items fun _ vs' e1 o2 q1=>?_
  obtain rfl:=rj e1
  refine ob12 (bind_eq_some_iff.mp e) fun ka hk e=>?_
  refine ob12 (bind_eq_some_iff.mp e) fun la hl e=>?_
  have key:vs=vs'->ka=la->b=true:=fun z1 z2=>by
   subst z1 z2
   rw [if_pos rfl,if_pos (r1.len.symm.trans q1.len)] at e
   exact Ku (f:=tEq n) (R:=Rd B h any) (R':=Rd B h any) (fun t u v b r q e=>WE (n:=n) r q e) r1 q1 e
  clear r1 q1 e r q;cases ka <;> cases la
  ·refine zc (o1.tups hk) fun _ wz24=>?_;obtain ⟨n1,g1⟩:=wz24;refine zc (o2.tups hl) fun _ wz25=>?_;obtain ⟨n2,g2⟩:=wz25
   rw [g1] at g2;injection g2 with g2;injection g2 with _ _ g2 _;injection g2 with g2 _;exact key (toArray_inj g2) rfl
  ·refine zc (o1.tups hk) fun _ wz26=>?_;obtain ⟨n1,g1⟩:=wz26;refine zc (o2.lists hl) fun _ wz27=>?_;obtain ⟨n2,g2⟩:=wz27
   rw [g1] at g2;injection g2 with g2;injection g2 with g2;exact absurd g2 (by decide +kernel)
  ·refine zc (o1.lists hk) fun _ wz28=>?_;obtain ⟨n1,g1⟩:=wz28;refine zc (o2.tups hl) fun _ wz29=>?_;obtain ⟨n2,g2⟩:=wz29
   rw [g1] at g2;injection g2 with g2;injection g2 with g2;exact absurd g2 (by decide +kernel)
  ·refine zc (o1.lists hk) fun _ wz30=>?_;obtain ⟨n1,g1⟩:=wz30;refine zc (o2.lists hl) fun _ wz31=>?_;obtain ⟨n2,g2⟩:=wz31
   rw [g1] at g2;injection g2 with g2;injection g2 with _ _ g2 _;injection g2 with g2 _;exact key (toArray_inj g2) rfl
theorem Ju {B:Heap} {s:Shared}:∀ {n:Nat} {A:Around} {t u:Tr} {v w:Value} {b:Bool},A.units+n<cLine->Rd B s.heap any t v->Rd B s.heap any u w->tEq n t u=some b->Z7 A s v w b
 |n,A,.sc x,.sc y,v,w,b,_,r,q,e=>Zv r.isSc q.isSc (X6 e)
 | 0,A,.sc _,.nd _ _,v,w,b,_,r,q,e=>nomatch e
 | 0,A,.nd _ _,_,v,w,b,_,r,q,e=>nomatch e
 |n+1,A,.sc x,.nd k us,v,w,b,hu,r,q,e=>by
  refine ob23 q.items fun a vs ez32x2 o1 _=>?_;subst ez32x2
  refine ob12 (map_eq_some_iff.mp e) fun l hl ez33x2=>?_;subst ez33x2
  exact (Qr (o1.seqs hl) (by exact om4 hu) r.isSc).2
 |n+1,A,.nd k us,.sc x,v,w,b,hu,r,q,e=>by
  refine ob23 r.items fun a vs ez34x2 o1 _=>?_;subst ez34x2
  refine ob12 (map_eq_some_iff.mp e) fun l hl ez35x2=>?_;subst ez35x2
  exact (Qr (o1.seqs hl) (by exact om4 hu) q.isSc).1
 |n+1,A,.nd k ts,.nd l us,v,w,b,hu,r,q,e=>by
  have hu':A.units<cLine:=by exact om4 hu
  have same:v=w->b=true:=fun z=>WE r (z▸q) e
  refine ob23 r.items fun a xs' ez36x2 o1 r1=>?_;subst ez36x2
  refine ob23 q.items fun c ys' ez37x2 o2 q1=>?_;subst ez37x2
  have both:(RcAt A s (.ref a) (.ref c) b/\RcNeAt A s (.ref a) (.ref c) (!b))->Z7 A s (.ref a) (.ref c) b:=fun x=>⟨x.1,by
   by_cases z:a=c
   ·rw [same (congrArg Value.ref z),z];exact EqAt.same _
   ·exact EqAt.of_refs z x.1,x.2⟩
  refine both ?_
  refine ob12 (bind_eq_some_iff.mp e) fun ka hk e=>?_
  refine ob12 (bind_eq_some_iff.mp e) fun la hl e=>?_
  have items:∀ g:Nat->Bool,(∀ (j:Nat) x y,ts[j]?=some x->us[j]?=some y->tEq n x y=some (g j))->∀ j (h1:j<xs'.toArray.size) (h2:j<ys'.toArray.size),EqAt A.in1 s xs'.toArray[j] ys'.toArray[j] (g j):=fun g he j h1 h2=>by
   have g1:j<ts.length:=by rw [<- r1.len];exact h1
   have g2:j<us.length:=by rw [<- q1.len];exact h2
   exact (Ju (n:=n) (A:=A.in1) (by show A.units+1+n<cLine;(exact om5 hu)) (r1.at (getElem?_eq_getElem g1) (getElem?_eq_getElem (l:=xs') h1)) (q1.at (getElem?_eq_getElem g2) (getElem?_eq_getElem (l:=ys') h2)) (he j _ _ (getElem?_eq_getElem g1) (getElem?_eq_getElem g2))).2.1
  have l1:xs'.toArray.size=ts.length:=r1.len
  have l2:ys'.toArray.size=us.length:=q1.len
  clear same r1 q1 both;cases ka <;> cases la
  ·refine zc (o1.tups hk) fun _ wz40=>?_;obtain ⟨n1,u1⟩:=wz40;refine zc (o2.tups hl) fun _ wz41=>?_;obtain ⟨n2,u2⟩:=wz41
   rw [if_pos rfl] at e
   by_cases hlen:ts.length=us.length
   ·rw [if_pos hlen] at e
    refine ob12 (xW e hlen) fun g he ez42x2=>?_;subst ez42x2
    have t1:=RcAt.tuples (yN u1) (yN u2) hu' (items g he)
    have t2:=RcNeAt.tuples (yN u1) (yN u2) hu' (items g he)
    rw [l1,l2,hlen,Nat.min_self,beq_self_eq_true,Bool.and_true] at t1 t2
    rw [hlen];exact ⟨t1,t2⟩
   ·exact no1 (Eq.trans (Eq.symm (if_neg hlen)) e)
  ·refine zc (o1.tups hk) fun _ wz43=>?_;obtain ⟨n1,u1⟩:=wz43;refine zc (o2.lists hl) fun _ wz44=>?_;obtain ⟨n2,u2⟩:=wz44
   obtain rfl:=sj e;exact ⟨RcAt.tuple_list (yN u1) (zn u2) hu',RcNeAt.tuple_list (yN u1) (zn u2) hu'⟩
  ·refine zc (o1.lists hk) fun _ wz45=>?_;obtain ⟨n1,u1⟩:=wz45;refine zc (o2.tups hl) fun _ wz46=>?_;obtain ⟨n2,u2⟩:=wz46
   obtain rfl:=sj e;exact ⟨RcAt.list_tuple (zn u1) (yN u2) hu',RcNeAt.list_tuple (zn u1) (yN u2) hu'⟩
  ·refine zc (o1.lists hk) fun _ wz47=>?_;obtain ⟨n1,u1⟩:=wz47;refine zc (o2.lists hl) fun _ wz48=>?_;obtain ⟨n2,u2⟩:=wz48
   rw [if_pos rfl] at e
   by_cases hlen:ts.length=us.length
   ·rw [if_pos hlen] at e
    refine ob12 (xW e hlen) fun g he ez49x2=>?_;clear o1 hl o2 hk;subst ez49x2
    have t1:=RcAt.lists (zn u1) (zn u2) (by rw [l1,l2];exact hlen) hu' (items g he)
    have t2:=RcNeAt.lists (zn u1) (zn u2) (by rw [l1,l2];exact hlen) hu' (items g he)
    rw [l1] at t1 t2;exact ⟨t1,t2⟩
   ·rw [if_neg hlen] at e;clear o1 hl o2 hk items;obtain rfl:=sj e
    have z:(xs'.toArray.size != ys'.toArray.size)=true:=by rw [l1,l2];exact bne_iff_ne.mpr hlen
    exact ⟨RcAt.lists_lengths (zn u1) (zn u2) z hu',RcNeAt.lists_lengths (zn u1) (zn u2) z hu'⟩
end Mine
namespace Mine
open PySem PySem.SeqAt
section
variable {S:Su} {f:Fr} {o:Own} {s:Shared} {A:Around} {E:Value->Shared->Prop} {c c':Cl} {t u:Tr} {v w:Value} {s1 s2:Sh}
variable {α β:Type} {V:Heap->α->β->Prop} {Q':β->Shared->Prop}
theorem Po.sc {k:Val->Ex α} (p:Po S f o V Q' s (tSc t .stuck k)):∃ x,t=.sc x/\Po S f o V Q' s (k x):=by
 cases t with
 |sc x=>exact ⟨x,rfl,p⟩
 |nd=>exact p.elim
theorem Po.onI {x:Val} {k:Int->Ex α} (p:Po S f o V Q' s (J8 x .stuck k)):∃ i,x=.int i/\Po S f o V Q' s (k i):=by
 cases x with
 |int i=>exact ⟨i,rfl,p⟩
 | _=>exact p.elim
theorem Po.int {B h:Heap} {k:Int->Ex α} (r:Rd B h c t v) (p:Po S f o V Q' s (km t .stuck k)):∃ i tk,t=.sc (.int i)/\v=.int i tk/\Po S f o V Q' s (k i):=by
 refine ob12 p.sc fun x ez0x1 p=>?_;subst ez0x1
 refine ob12 p.onI fun i ez1x1 p=>?_;subst ez1x1
 obtain ⟨tk,rfl⟩:=r.isSc
 exact ⟨i,tk,rfl,rfl,p⟩
theorem yD {B h:Heap} {k:Int->Option α} {a:α} (r:Rd B h c t v) (e:km t none k=some a):∃ i tk,t=.sc (.int i)/\v=.int i tk/\k i=some a:=by
 cases t with
 |nd=>exact no1 e
 |sc x=>cases x with
  |int i=>obtain ⟨tk,rfl⟩:=r.isSc;exact ⟨i,tk,rfl,rfl,e⟩
  | _=>clear h r;exact no1 e
theorem Po.lst {k:List Tr->Ex α} (p:Po S f o V Q' s (vS t k)):∃ ts,t=.nd .lst ts/\Po S f o V Q' s (k ts):=by
 cases t with
 |sc=>exact p.elim
 |nd l ts=>cases l with
  |lst=>exact ⟨ts,rfl,p⟩
  | _=>exact p.elim
theorem Po.mkL {Q:Value->Shared->Prop} {ts:List Tr} {ys:List Value} {n:Nat} {h':Heap} {tk:Nat} (p:Po S f o (RW S o s.heap) Q s (mkL ts)) (r:HB S.B o s.heap) (k:∀ b ob,s.heap.get? b=some ob->h'.get? b=some ob)
  (e:h'.get? s.heap.objs.size=some (zf ys n)) (a:A2 (Rd S.B s.heap (imm o)) ts ys):Q (.ref s.heap.objs.size) (up s h' tk):=by
 obtain ⟨l,p⟩:=p.ite
 refine p.push r k ⟨_,ys,n,rfl,rfl,zH _,r.free (zH _),e,a.len▸l,a.imp fun _ _ z=>z.mono fun p b ob q e=>⟨(kD fun z=>?_).trans q,zb (k b) e⟩⟩
 refine ob12 (zp e) fun _ y _=>?_
 rw [show b=_ from z,zH] at y;clear tk p r k e a l z q;exact no1 y
theorem Wn {Q:Value->Shared->Prop} {ts:List Tr} {W:Heap->Tr->Value->Prop} (p:Po S f o W Q s (mkL ts)):ts.length<=1048576:=(Po.ite p).1
theorem jD.len {B h:Heap} {c:Cl} {a:Addr} {ys:List Value} {k:K} {l:Bool} (e:k.seq=some l) (r:jD B h c a k ys):ys.length<=1048576:=by
 cases l with
 |true=>exact (r.lists e).1
 |false=>exact (r.tups e).1
theorem vR {Q:Bool->Shared->Prop} (hb:HB S.B o s.heap) (r:Rd S.B s.heap c t v) (p:Po S f o RB Q s (Ex.opt (zd t))):wpAny S.M A (truthy v) Q E s:=by
 cases t with
 |sc x=>cases x with
  |none=>rw [show v=_ from r.isSc];exact PyProof.Rows.truthy_none (p.here' hb rfl)
  |bool b=>rw [show v=_ from r.isSc];exact wpAny_truthy_bool (p.here' hb rfl)
  |int i=>obtain ⟨t,rfl⟩:=r.isSc;exact PyProof.Rows.truthy_int (p.here' hb rfl)
  |str x=>exact p.elim
 |nd k ts =>
  have z:k.seq=some true->Po S f o RB Q s (.ok (!ts.isEmpty))->wpAny S.M A (truthy v) Q E s:=fun e p=>by
   refine ob23 r.items fun a ys ez3x2 ob q=>?_;clear r;subst ez3x2
   refine zc (ob.lists e) fun l wz4=>?_;obtain ⟨n,g⟩:=wz4
   have l':ys.length<=1048576:=l
   refine wpAny_truthy_list (zn g) (by show ((ys.length:Nat):Int)<2 ^ 63;omega) (p.here hb ?_)
   have:=q.len
   clear hb e a ob q l n g l';cases ts <;> cases ys <;> first | rfl | cases this
  clear hb r;cases k with
  |lst=>exact z rfl p
  |ro=>exact z rfl p
  | _=>exact p.elim
theorem Y7 {a b:Int} (h:xa a b=true):IntMulOk a b:=by
 have key:∀ x:Int,x.natAbs<9223372036854775808->Builtin.Int.intBits x<=64:=fun x hx=>by
  unfold Builtin.Int.intBits
  split
  ·(first | exact Ep | omega)
  ·have:x.natAbs.log2<63:=(Nat.log2_lt (by simp_all)).mpr (by omega)
   (exact Eo this)
 rcases or_eq_true_iff.mp h with h | h
 ·exact IntMulOk.of_left (key a (of_decide_eq_true h))
 ·exact IntMulOk.of_right (key b (of_decide_eq_true h))
theorem QA (items:Array Value):∀ (n:Nat) (acc:Array Value),(List.foldl (fun x1 x2=>x1++x2) acc (List.replicate n items))=acc++(List.replicate n items.toList).flatten.toArray
 | 0,acc=>by simp
 |n+1,acc=>by rw [replicate_succ,List.foldl_cons,QA items n,replicate_succ,flatten_cons,Array.append_assoc];congr 1;apply Array.toList_inj.mp;simp
theorem T6 {op:Operator} {Q:Value->Shared->Prop} (hb:HB S.B o s.heap) (r:Rd S.B s.heap (cS o s1) t v) (q:Rd S.B s.heap (cS o s2) u w) (p:Po S f o (RW S o s.heap) Q s (X7 s1 s2 op t u)):wpAny S.M A (binaryOp op v w) Q E s:=by
 cases t with
 |sc x =>
  refine ob12 p.onI fun a ez5x1 p=>?_;subst ez5x1
  refine ob23 (p.int q) fun b t2 ez6x2 ez6x3 p=>?_;subst ez6x2;subst ez6x3
  obtain ⟨t1,rfl⟩:=r.isSc
  cases op with
  |Add=>exact PyProof.Rows.add_int (p.here hb ⟨_,rfl⟩)
  |Sub=>exact PyProof.Rows.sub_int (p.here hb ⟨_,rfl⟩)
  |Mult=>obtain ⟨hm,p⟩:=p.ite;exact PyProof.Rows.mul_int (p.here hb ⟨_,rfl⟩) (Y7 hm)
  |FloorDiv =>
   obtain ⟨hm,p⟩:=p.ite
   refine PyProof.Rows.floordiv_int (by exact Ei hm) ?_ (.inl (PyProof.noPylong_small (by omega)))
   rw [Int.fdiv_eq_ediv_of_nonneg _ (by exact Eh hm)]
   exact p.here hb ⟨_,rfl⟩
  |Mod =>
   obtain ⟨hm,p⟩:=p.ite
   refine PyProof.Rows.mod_int' (by exact Eg hm) ?_
   rw [Int.fmod_eq_emod_of_nonneg _ (by exact Ef hm)]
   exact p.here hb ⟨_,rfl⟩
  | _=>exact p.elim
 |nd k xs=>cases k with
  |lst=>cases u with
   |sc y =>
    refine ob12 p.onI fun m ez7x1 p=>?_;subst ez7x1
    cases op with
    |Mult =>
     obtain ⟨hm,p⟩:=p.ite
     obtain ⟨e,p⟩:=p.cond
     refine ob23 (r.elems e) fun a xs' ez8x2 ob av=>?_;subst ez8x2
     refine zc ob fun l1 wz9=>?_;clear ob;obtain ⟨n1,u1⟩:=wz9
     obtain ⟨t,rfl⟩:=q.isSc
     have hl:=Wn p
     have hlim:lim=1048576:=rfl
     have hsz:xs'.toArray.size*m.toNat<=2 ^ 24:=by
      have z:(List.replicate m.toNat xs).flatten.length=m.toNat*xs.length:=by simp [List.length_flatten]
      rw [z] at hl
      show xs'.length*m.toNat<=_
      rw [av.len,Nat.mul_comm];omega
     refine wpAny_binaryOp_repeat_ref (T:="list") (U:="int") (by decide) ⟨_,u1,rfl⟩ (fun s'=>typeIs_int s' m t) noFill_list_mul F.fills_int_mul F.slot_int_rmul repeat_list F.slot_int_index.lookup
      (call_meets F.slot_int_rmul (typeIs_int s m t) F.entry_int_rmul (F.args_int_rmul_2 _ _) (int___rmul___int_list m t a xs'.toArray n1)
       ⟨u1,rfl,⟨_,u1,rfl⟩,call_meets F.slot_list_mul ⟨_,u1,rfl⟩ F.entry_list_mul (F.args_list_mul_2 _ _)
        (AutoListH.list___mul___list_int_3 a xs'.toArray n1 m t (by simp [Builtin.List.listFitsIndex];(exact Ee hm hlim)) (by omega) (by simp [Builtin.List.listTooLong,sizeLine];simp at hsz;(exact Ed hsz)))
        ⟨u1,?_⟩⟩)
     have e2:(List.foldl (fun x1 x2=>x1++x2) #[] (List.replicate (if xs'.toArray.isEmpty=true then 0 else m.toNat) xs'.toArray))=(List.replicate m.toNat xs').flatten.toArray:=by
      rw [QA]
      split
      ·rename_i he
       have:xs'=[]:=by simpa using he
       clear hm hl hlim hsz;subst this
       simp
      ·simp
     rw [e2]
     exact p.mkL (n:=0) hb (zt _ _) (Heap.get?_push_size _ rfl) (av.rep _)
    | _=>exact p.elim
   |nd l ys=>cases l with
    |lst=>cases op with
     |Add =>
      obtain ⟨e,p⟩:=p.cond
      obtain ⟨e1,e2⟩:=and_eq_true_iff.mp e
      refine ob23 (r.elems e1) fun a xs' ez10x2 wz10x3 v1=>?_;clear r e e1;subst ez10x2;refine zc wz10x3 fun l1 wz0=>?_;clear wz10x3;obtain ⟨n1,u1⟩:=wz0
      refine ob23 (q.elems e2) fun b ys' ez11x2 wz11x3 v2=>?_;clear q e2;subst ez11x2;refine zc wz11x3 fun l2 wz1=>?_;clear wz11x3;obtain ⟨n2,u2⟩:=wz1
      have l3:xs'.length<=1048576:=l1
      have l4:ys'.length<=1048576:=l2
      refine PySem.P.add_list u1 u2 (p.mkL (ys:=xs'++ys') (n:=0) hb (zt _ _) ?_ (v1.append v2)) (by show xs'.length+ys'.length<=2 ^ 24;omega)
      rw [Heap.get?_push_size _ rfl];simp
     | _=>exact p.elim
    | _=>exact p.elim
  | _=>exact p.elim
theorem Hn {op:UnaryOp} {Q:Value->Shared->Prop} (hb:HB S.B o s.heap) (r:Rd S.B s.heap c t v) (p:Po S f o (RV S (imm o)) Q s (tUn op t)):wpAny S.M A (unaryOp op v) Q E s:=by
 cases op with
 |Not =>
  have p:Po S f o (RV S (imm o)) Q s (match zd t with | some b=>.ok (.sc (.bool (!b))) | none=>.stuck):=p
  cases e:zd t with
  |none=>rw [e] at p;exact p.elim
  |some b =>
   rw [e] at p
   refine not_value (vR (f:=f) hb r ?_)
   rw [e]
   intro b' h' tk r' st z
   rw [<- show b=b' from z]
   exact p _ h' tk r' st (.sc rfl)
 |USub =>
  refine ob23 (p.int r) fun i tk ez12x2 ez12x3 p=>?_;clear r;subst ez12x2;subst ez12x3
  exact PyProof.Rows.neg_int (p.here hb (.sc ⟨_,rfl⟩))
 | _=>exact p.elim
theorem Y3 {B h:Heap} (r:Rd B h c t v):(v==Value.none)=Qg t:=by
 cases t with
 |sc x=>cases x with
  |none=>rw [show v=_ from r.isSc];rfl
  |bool b=>rw [show v=_ from r.isSc];rfl
  |int i=>obtain ⟨t,rfl⟩:=r.isSc;rfl
  |str i=>refine zc r.isSc fun _ wz13=>?_;obtain ⟨t,rfl⟩:=wz13;rfl
 |nd k ts=>refine ob22 r.node fun a vs ez14x2 _=>?_;clear r;subst ez14x2;rfl
theorem Ap {op:CmpOp} {b:Bool} {n:Nat} {M:Model} {Q:Value->Shared->Prop} (ok:AOk n A) (r:Rd S.B s.heap c t v) (q:Rd S.B s.heap c' u w) (e:ym op t u=some b) (fin:Q (.bool b) s):wpAny S.M A (compareOp op v w) Q E s:=by
 have ub:A.units+8<cLine:=ok.u 8
 clear n ok;cases op with
 |Eq=>exact (show wpAny S.M A (richCompare .Eq v w) Q E s from (Ju ub r.any q.any e).1 _ _ _ _ fin)
 |NotEq =>
  refine ob12 (map_eq_some_iff.mp e) fun d hd ez15x2=>?_;subst ez15x2
  exact (show wpAny S.M A (richCompare .NotEq v w) Q E s from (Ju ub r.any q.any hd).2.2 _ _ _ _ fin)
 |Is =>
  have e:cond (Qg u) (some (Qg t)) none=some b:=e
  have z:=Y3 q
  clear ub;cases hu:Qg u with
  |false=>rw [hu] at e;exact no1 e
  |true =>
   rw [hu] at e z;obtain rfl:=sj e
   rw [beq_iff_eq.mp z]
   refine is_none ?_
   rw [Y3 r];exact fin
 |Lt=>refine ob23 (yD r e) fun x _ ez16x2 ez16x3 e=>?_;clear ub;subst ez16x2;subst ez16x3;refine ob23 (yD q e) fun y _ ez17x2 ez17x3 e=>?_;subst ez17x2;subst ez17x3;obtain rfl:=sj e;exact PyProof.Rows.lt_int fin
 |LtE=>refine ob23 (yD r e) fun x _ ez18x2 ez18x3 e=>?_;clear ub;subst ez18x2;subst ez18x3;refine ob23 (yD q e) fun y _ ez19x2 ez19x3 e=>?_;subst ez19x2;subst ez19x3;obtain rfl:=sj e;exact PyProof.Rows.le_int fin
 |Gt=>refine ob23 (yD r e) fun x _ ez20x2 ez20x3 e=>?_;clear ub;subst ez20x2;subst ez20x3;refine ob23 (yD q e) fun y _ ez21x2 ez21x3 e=>?_;subst ez21x2;subst ez21x3;obtain rfl:=sj e;exact PyProof.Rows.gt_int fin
 |GtE=>refine ob23 (yD r e) fun x _ ez22x2 ez22x3 e=>?_;clear r ub;subst ez22x2;subst ez22x3;refine ob23 (yD q e) fun y _ ez23x2 ez23x3 e=>?_;clear q;subst ez23x2;subst ez23x3;obtain rfl:=sj e;exact PyProof.Rows.ge_int fin
 | _=>clear r q fin ub;exact no1 e
end
end Mine
namespace Mine
open PySem PySem.SeqAt
section
variable {S:Su} {f:Fr} {o:Own} {s:Shared} {A:Around} {E:Value->Shared->Prop} {c c':Cl} {t u:Tr} {v w:Value} {s1 s2:Sh} {n:Nat}
theorem xJ {i:Int} {n k:Nat} (h:yX i n=some k):seqIndex? i n=some k/\k<n/\-(n:Int)<=i/\i<n:=by
 unfold yX at h
 split at h
 ·split at h
  ·obtain rfl:=sj h;exact ⟨seqIndex_of (by assumption) (by assumption),by exact En ‹_› ‹_›,by exact Em ‹_›,by exact El ‹_›⟩
  ·exact no1 h
 ·split at h
  ·obtain rfl:=sj h;exact ⟨seqIndex_neg (by exact DP ‹_›) (by exact DN ‹_›),by exact Ek ‹_› ‹_›,by exact DN ‹_›,by exact Ej ‹_›⟩
  ·exact no1 h
noncomputable def QT:Ty->String
 | .int=>"int" | .bool=>"bool" | .list=>"list" | .tuple=>"tuple"
theorem Zh {ty:Ty} {Q:Value->Shared->Prop} (hb:HB S.B o s.heap) (r:Rd S.B s.heap c t v) (p:Po S f o (RV S (imm o)) Q s ((Ex.opt (tIs ty t)).bind fun b=>.ok (.sc (.bool b)))) :
  wpAny S.M A (call (.builtin "isinstance") [v,.type (QT ty)]) Q E s:=by
 cases t with
 |sc x=>cases x with
  |none =>
   rw [show v=_ from r.isSc]
   cases ty
   ·exact IsiPair.NoneType_int (Po.here p hb (.sc rfl))
   ·exact IsiPair.NoneType_bool (Po.here p hb (.sc rfl))
   ·exact IsiPair.NoneType_list (Po.here p hb (.sc rfl))
   ·exact IsiPair.NoneType_tuple (Po.here p hb (.sc rfl))
  |bool b =>
   rw [show v=_ from r.isSc]
   cases ty
   ·exact IsiPair.bool_int (Po.here' p hb (.sc rfl))
   ·exact IsiPair.bool_bool (Po.here' p hb (.sc rfl))
   ·exact IsiPair.bool_list (Po.here p hb (.sc rfl))
   ·exact IsiPair.bool_tuple (Po.here p hb (.sc rfl))
  |int i =>
   obtain ⟨t,rfl⟩:=r.isSc
   cases ty
   ·exact IsiPair.int_int (Po.here' p hb (.sc rfl))
   ·exact IsiPair.int_bool (Po.here p hb (.sc rfl))
   ·exact IsiPair.int_list (Po.here p hb (.sc rfl))
   ·exact IsiPair.int_tuple (Po.here p hb (.sc rfl))
  |str i =>
   refine zc r.isSc fun _ wz0=>?_;obtain ⟨t,rfl⟩:=wz0
   cases ty
   ·exact IsiPair.str_int (Po.here p hb (.sc rfl))
   ·exact IsiPair.str_bool (Po.here p hb (.sc rfl))
   ·exact IsiPair.str_list (Po.here p hb (.sc rfl))
   ·exact IsiPair.str_tuple (Po.here p hb (.sc rfl))
 |nd k ts =>
  refine ob23 r.items fun a ys ez1x2 ob _=>?_;clear r;subst ez1x2
  have zl:k.seq=some true->Po S f o (RV S (imm o)) Q s (.ok (.sc (.bool (match ty with | .list=>true | .tuple=>false | .int=>false | .bool=>false))))->wpAny S.M A (call (.builtin "isinstance") [.ref a,.type (QT ty)]) Q E s:=fun e p=>by
   refine zc (ob.lists e) fun _ wz2=>?_;obtain ⟨m,g⟩:=wz2
   clear e;cases ty
   ·exact IsiPair.list_int g rfl (p.here hb (.sc rfl))
   ·exact IsiPair.list_bool g rfl (p.here hb (.sc rfl))
   ·exact IsiPair.list_list g rfl (p.here' hb (.sc rfl))
   ·exact IsiPair.list_tuple g rfl (p.here hb (.sc rfl))
  cases k with
  |lst=>exact zl rfl (by cases ty <;> exact p)
  |ro=>exact zl rfl (by clear zl;cases ty <;> exact p)
  |tup =>
   refine zc ob fun _ wz3=>?_;clear ob;obtain ⟨m,g⟩:=wz3
   clear zl;cases ty
   ·exact IsiPair.tuple_int g rfl (Po.here p hb (.sc rfl))
   ·exact IsiPair.tuple_bool g rfl (Po.here p hb (.sc rfl))
   ·exact IsiPair.tuple_list g rfl (Po.here p hb (.sc rfl))
   ·exact IsiPair.tuple_tuple g rfl (Po.here' p hb (.sc rfl))
  |inst=>exact p.elim
theorem JV {k:K} {l:Bool} {ys:List Value} {i:Int} {tk:Tok} {j:Nat} {y:Value} {a:Addr} {value slice:Expr} {Q:Value->Shared->Prop} (hk:k.seq=some l) (ob:jD S.B s.heap c a k ys) (hj:yX i ys.length=some j) (e1:ys[j]?=some y) (fin:Q y s)
  (hs:subscripted slice false (.ref a) (.int i tk)=operate [.ref a,.int i tk] (getItem (.ref a) (.int i tk))):wpAny S.M A (PyProof.Rows.subscriptTail value slice (.ref a) (.int i tk)) Q E s:=by
 refine Kb (xJ hj) fun i1 i2 i3 i4=>?_
 have l':=ob.len hk
 cases l with
 |false =>
  refine zc (ob.tups hk) fun _ wz5=>?_;obtain ⟨m,g⟩:=wz5
  exact PyProof.Rows.tail_any (T:="tuple") ⟨_,g,rfl⟩ F.slot_tuple_getitem.lookup (P.getItem_tuple g (by omega) (by omega) (k:=j) i1 (by rw [<- e1];exact getElem?_toArray) fin) hs
 |true =>
  refine zc (ob.lists hk) fun _ wz6=>?_;obtain ⟨m,g⟩:=wz6
  have hl:s.heap.IsList a ys.toArray:=zn g
  by_cases h0:0<=i
  ·have:j=i.toNat:=by rw [seqIndex_of h0 i4] at i1;exact (Option.some.inj i1).symm
   subst this
   exact PyProof.Rows.tail_any hl.typeIs slot_list_getitem.lookup (wpAny_getItem_list hl h0 (by omega) (by rw [<- e1];exact getElem?_toArray) fin) hs
  ·have:j=(i+ys.length).toNat:=by rw [seqIndex_neg (by exact DP h0) (by exact DG i3)] at i1;exact (Option.some.inj i1).symm
   subst this
   exact PyProof.Rows.tail_any hl.typeIs slot_list_getitem.lookup (wpAny_getItem_list_neg hl (by exact Ec i2) (by simp;(exact DG i3)) (by omega) (by simpa using e1) fin) hs
theorem Ht {e:za} {value slice:Expr} {Q:Value->Shared->Prop} (hb:HB S.B o s.heap) (r:Rd S.B s.heap (cS o s1) t v) (q:Rd S.B s.heap c u w) (z:∀ k:Nat,isC e k=true->u=.sc (.int k)) (p:Po S f o (RV S (cS o (s1.el e))) Q s (Ex.opt (vz t u)))
  (hs:∀ v w,subscripted slice false v w=operate [v,w] (getItem v w)):wpAny S.M A (PyProof.Rows.subscriptTail value slice v w) Q E s:=by
 refine ob12 p.opt fun x ex p1=>?_
 clear p;cases t with
 |sc=>exact no1 ex
 |nd k ts =>
  refine ob12 (bind_eq_some_iff.mp ex) fun l hk ex=>?_
  refine ob23 (yD q ex) fun i tk ez9x2 ez9x3 ex=>?_;clear q;subst ez9x2;subst ez9x3
  refine ob12 (bind_eq_some_iff.mp ex) fun j hj hx=>?_
  refine Kb (xJ hj) fun i1 i2 i3 i4=>?_
  refine ob25 r.node fun a ys ez12x2 _ ob el es=>?_;clear r ex i3;subst ez12x2
  obtain ⟨y,e1⟩:∃ y,ys[j]?=some y:=⟨_,getElem?_eq_getElem (by rw [el];exact i2)⟩
  have zz:∀ k:Nat,isC e k=true->j=k:=fun k hc=>by
   injection z k hc with z;injection z with z;clear value ex tk i2 hc;subst z
   rw [seqIndex_of (natCast_nonneg k) i4] at i1
   exact (Option.some.inj i1).symm
  exact JV hk ob (by rw [el];exact hj) e1 (Po.here' (V:=RV S (cS o (s1.el e))) p1 hb ((es j x y hx e1).to fun _ _=>Kx zz)) (hs _ _)
theorem u7 {l:Addr} {items:Array Value} {m:Nat} {k:Int} {t:Tok} {v:Value} {Q:Unit->Shared->Prop} (ho:s.heap.get? l=some { cls:=.type "list",dict:=none,data:=.seq items m,slots:=#[] })
  (h0:0<=k) (hfit:k<2 ^ 63) (hn:k<items.size) (hQ:Q () { s with heap:=s.heap.update l (Obj.mapSeq (·.setIfInBounds k.toNat v)) }):wpAny S.M A (setItem (.ref l) (.int k t) v) Q E s:=by
 have hl:s.heap.IsList l items:=⟨_,ho,rfl,m,rfl⟩
 unfold setItem
 try with_reducible refine wpAny_holding ?_
 first | refine wpAny_bind (wpAny_pure ?_) | skip
 refine wpAny_bind (wpAny_sequenceKey hl.typeIs (by decide) ?_)
 refine wpAny_bind (wpAny_callSpecial?_slot (name:=Str.ofString "__setitem__") hl.typeIs slot_list_setitem
  (wpAny_call_entry slot_list_setitem hl.typeIs entry_list_setitem ?_ (args_list_setitem _ _ _)))
 show wpAny _ _ (Builtin.List.listSubscript? (.int k t) >>= _) _ _ s
 refine wpAny_bind (wpAny_listSubscript_int (fitsIndex_of h0 hfit) ?_)
 clear hfit
 refine ob11 (eq_ofNat_of_zero_le h0) fun j ez12x1=>?_;clear h0 hl;subst ez12x1
 have hj:j<items.size:=by exact Eb hn
 have hx':items[j]?=some items[j]:=Array.getElem?_eq_getElem hj
 show wpAny _ _ ((seqItemAt l j >>= fun r=>pure (r.map (j,·))) >>= _) _ _ s
 refine wpAny_bind (wpAny_bind (wpAny_seqItemAt ho rfl (wpAny_pure ?_)))
 rw [hx']
 show wpAny _ _ (setSeqItemAt l j v >>= _) _ _ s
 refine wpAny_bind (wpAny_setSeqItemAt ho rfl ?_)
 first
  |exact wpAny_bind (wpAny_pure (wpAny_pure ⟨.none,rfl,wpAny_pure hQ⟩))
  |exact wpAny_pure ⟨.none,rfl,wpAny_pure hQ⟩
noncomputable def Tb:BI->Value
 | .len=>.builtin "len" | .sum=>.builtin "sum" | .max=>.builtin "max"
 | .int=>.type "int" | .list=>.type "list"
theorem Qw {B h:Heap}:∀ {ts:List Tr} {ys:List Value} {ns:List Int},A2 (Rd B h any) ts ys->xd ts=some ns->ns.length=ys.length/\∀ (i:Nat) v,ys[i]?=some v->∃ t,v=.int (ns.getD i 0) t
 | [],_,_,h,e=>by rw [show _=[] from h];clear h;obtain rfl:=sj e;exact ⟨rfl,fun _ _ z=>nomatch z⟩
 |x::xs,_,ns,⟨y,ys,e,r,rs⟩,q=>by
  subst e
  refine ob23 (yD r q) fun i tk ez13x2 ez13x3 q=>?_;clear r;subst ez13x2;subst ez13x3
  refine ob12 (map_eq_some_iff.mp q) fun ms hm ez14x2=>?_;clear q;subst ez14x2
  obtain ⟨h1,h2⟩:=Qw rs hm
  refine ⟨congrArg (·+1) h1,fun j v hv=>?_⟩
  clear h rs q hm h1;cases j with
  |zero=>obtain rfl:=sj hv;exact ⟨tk,rfl⟩
  |succ j=>exact h2 j v hv
theorem uo {a:Addr} {ys:List Value} {m:Nat} (g:s.heap.get? a=some (zf ys m)):a≠s.heap.objs.size:=ne_of_lt (Heap.lt_size g)
theorem Zc {a:Addr} {ys:List Value} {m:Nat} (g:s.heap.get? a=some (zf ys m)):let h₂:=s.heap.push { cls:=.type "list_iterator",data:=.fields #[.ref a,.int 0 0] }
  h₂.IsListIter s.heap.objs.size a 0/\h₂.IsList a ys.toArray/\(∀ b ∈ [s.heap.objs.size,a],b<h₂.objs.size) :=
 ⟨⟨_,Heap.get?_push_size _ rfl,rfl,rfl⟩,zn (Heap.get?_push_of_some _ g),fun b hb=>by
  have:=Heap.lt_size g
  simp only [mem_cons,not_mem_nil,or_false] at hb
  show b<(s.heap.push _).objs.size
  rw [Heap.size_push]
  clear ys m g;rcases hb with rfl | rfl
  ·exact lt_succ_self _
  ·exact lt_succ_of_lt this⟩
theorem UT {h':Heap} {o:Obj} (k:∀ b ob,b ∉ [s.heap.objs.size]->(s.heap.push o).get? b=some ob->h'.get? b=some ob):∀ b ob,s.heap.get? b=some ob->h'.get? b=some ob:=fun b ob e =>
 k b ob (by simp;exact ne_of_lt (Heap.lt_size e)) (Heap.get?_push_of_some _ e)
theorem ED {b:BI} {cs:List Sh} {ts:List Tr} {ws:List Value} {Q:Value->Shared->Prop} (ok:AOk n A) (hb:HB S.B o s.heap) (r:AL S o cs s.heap ts ws) (p:Po S f o (RW S o s.heap) Q s (tBi cs b ts)):wpAny S.M A (call (Tb b) ws) Q E s:=by
 cases cs with
 |nil=>obtain ⟨rfl,rfl⟩:=r;exact p.elim
 |cons c0 cs =>
  obtain ⟨t,ts,v,ws,rfl,rfl,r,rs⟩:=r
  cases cs with
  |nil =>
   obtain ⟨rfl,rfl⟩:=rs
   have p:Po S f o (RW S o s.heap) Q s (Hs c0 b t):=p
   cases b with
   |len=>cases t with
    |sc=>exact p.elim
    |nd k ts =>
     obtain ⟨a,ys,rfl,ob,q⟩:=r.items
     have p:Po S f o (RW S o s.heap) Q s (match k.seq with | some _=>.ok (.sc (.int ts.length)) | none=>.stuck):=p
     rw [<- q.len] at p
     cases hk:k.seq with
     |none=>rw [hk] at p;exact p.elim
     |some l =>
      rw [hk] at p
      have l':=ob.len hk
      cases l with
      |false=>obtain ⟨_,m,g⟩:=ob.tups hk;exact P.len_tuple g (by show ¬ (((ys.length:Nat):Int)≥2 ^ 63);omega) (Po.here p hb ⟨_,rfl⟩)
      |true=>obtain ⟨_,m,g⟩:=ob.lists hk;exact Calls.call_len_list (zn g) (by show ((ys.length:Nat):Int)<2 ^ 63;omega) (Po.here p hb ⟨_,rfl⟩)
   |sum =>
    obtain ⟨xs,rfl,p1⟩:=p.lst
    obtain ⟨a,ys,rfl,⟨_,m,g⟩,q⟩:=r.items
    cases hn:xd xs with
    |none=>rw [hn] at p1;exact p1.elim
    |some ns =>
     rw [hn] at p1
     obtain ⟨n1,n2⟩:=Qw q hn
     obtain ⟨w1,w2,w3⟩:=Zc g
     refine call_sum_walkG (wpAny_pyIter_list (zn g) ⟨_,_,_,_,_,_,fun i=>ns.getD i 0,rfl,Walks.list (A:=A.in1) ok.handled _ a (uo g) ys.toArray,⟨w1,w2⟩,w3,fun i v hi=>?_,fun h' tk t' k=>?_⟩)
     ·obtain ⟨t,ht⟩:=n2 i v (by rw [<- hi];exact getElem?_toArray.symm);exact ⟨t,ht⟩
     ·rw [PyProof.Rows.preSum_getD,List.take_of_length_le (by show ns.length<=ys.length;(exact DL n1))]
      exact Po.push (s:=s) p1 hb (UT (s:=s) k) ⟨_,rfl⟩
   |int =>
    obtain ⟨x,rfl,p1⟩:=p.sc
    cases x with
    |bool b=>rw [show v=_ from r.isSc];exact call_int_bool (Po.here p1 hb ⟨_,rfl⟩)
    | _=>exact p1.elim
   |list =>
    obtain ⟨xs,rfl,p1⟩:=p.lst
    obtain ⟨e,p1⟩:=p1.cond
    obtain ⟨a,ys,rfl,⟨l,m,g⟩,q⟩:=r.elems e
    have l':ys.length<=1048576:=l
    exact call_list_seq a (.inl rfl) g rfl rfl (fun h' c' k e=>p1.mkL hb k e q) (by show ys.length<=2 ^ 24;omega)
   |max=>exact p.elim
  |cons c1 cs =>
   refine ob44 rs fun u ts w ws ez25x4 ez25x5 q qs=>?_;clear rs;subst ez25x4;subst ez25x5
   cases cs with
   |cons=>obtain ⟨_,_,_,_,rfl,_⟩:=qs;exact p.elim
   |nil =>
    obtain ⟨rfl,rfl⟩:=qs
    have p:Po S f o (RW S o s.heap) Q s (Hr b t u):=p
    cases b with
    |max =>
     obtain ⟨x,_,rfl,rfl,p1⟩:=p.int r
     obtain ⟨y,_,rfl,rfl,p2⟩:=p1.int q
     refine max_two_ints ok.handled fun h' tk k=>?_
     split <;> rename_i hc
     ·rw [if_pos hc] at p2;exact p2.push hb k ⟨_,rfl⟩
     ·rw [if_neg hc] at p2;exact p2.push hb k ⟨_,rfl⟩
    | _=>exact p.elim
noncomputable def T4:Val->Option (Option Int)
 | .none=>some none
 | .int i=>some (some i)
 | .bool _=>none
 | .str _=>none
theorem Vo {v:Val} {d m a:Nat} (h:T5 v d m=some a):∃ o:Option Int,T4 v=some o/\a=o.elim d (clipAt m):=by
 cases v with
 |none=>exact ⟨none,rfl,(sj h).symm⟩
 |int i=>exact ⟨some i,rfl,(sj h).symm⟩
 | _=>exact no1 h
theorem UB {B h:Heap} {x:Val} {a:Option Int} (r:Rd B h c (.sc x) v) (h:T4 x=some a):IsPart v a:=by
 cases x with
 |none=>obtain rfl:=sj h;rw [show v=_ from r.isSc];exact .none
 |int i=>obtain rfl:=sj h;obtain ⟨t,rfl⟩:=r.isSc;exact .int _ _
 | _=>clear r;exact no1 h
theorem QG {B h:Heap} {d m a:Nat} (r:Rd B h c t v) (e:KF t d m=some a):∃ o:Option Int,IsPart v o/\a=o.elim d (clipAt m):=by
 cases t with
 |nd=>exact no1 e
 |sc x =>
  refine ob12 (Vo e) fun o e1 e2=>?_
  exact ⟨o,UB r e1,e2⟩
theorem Uo {lo hi:Tr} {lo' hi':Value} {value slice:Expr} {Q:Value->Shared->Prop} (hb:HB S.B o s.heap) (r:Rd S.B s.heap (cS o s1) t v) (r1:Rd S.B s.heap c lo lo') (r2:Rd S.B s.heap c' hi hi') (p:Po S f o (RW S o s.heap) Q s (X4 s1 t lo hi))
  (hs:∀ i,subscripted slice false v i=operate [i,v] (getItem v i)) :
  wpAny S.M A (PyProof.Rows.subscriptTail value slice v (.ref s.heap.objs.size)) Q E { s with heap:=s.heap.push { cls:=.type "slice",data:=.fields #[lo',hi',.none] } }:=by
 refine ob12 p.lst fun ts ez30x1 p1=>?_;clear p;subst ez30x1
 cases ha:KF lo 0 ts.length with
 |none=>rw [ha] at p1;exact p1.elim
 |some a=>cases hc:KF hi ts.length ts.length with
  |none=>rw [ha,hc] at p1;exact p1.elim
  |some b =>
   rw [ha,hc] at p1
   obtain ⟨e,p2⟩:=Po.cond p1
   refine ob23 (r.elems e) fun ad ys ez31x2 wz31x3 q=>?_;clear r p1;subst ez31x2;obtain ⟨l,m,g⟩:=wz31x3
   have l':ys.length<=1048576:=l
   have ll:=q.len
   refine ob12 (QG r1 ha) fun o1 c1 d1=>?_
   refine ob12 (QG r2 hc) fun o2 c2 d2=>?_
   have g':=Heap.get?_push_of_some (o:={ cls:=.type "slice",data:=.fields #[lo',hi',.none] }) g
   have hl:=zn g'
   refine PyProof.Rows.tail_any hl.typeIs slot_list_getitem.lookup (wpAny_getItem_list_slice (lo:=o1) (hi:=o2) (st:=none) hl ⟨_,Heap.get?_push_size _ rfl,rfl,rfl⟩ c1 c2 .none (by simp) ?_ (by show ys.length<=2 ^ 24;omega)) (hs _)
   rw [slicePick_plain]
   have e:((ys.toArray.toList.drop (o1.elim 0 (clipAt ys.toArray.size))).take (o2.elim ys.toArray.size (clipAt ys.toArray.size)-o1.elim 0 (clipAt ys.toArray.size))).toArray=((ys.take b).drop a).toArray:=by
    simp only [List.size_toArray,ll]
    rw [<- d1,<- d2,List.drop_take]
   rw [e]
   have gr:zA s.heap (s.heap.push { cls:=.type "slice",data:=.fields #[lo',hi',.none] }):=fun b _ e=>zb (zt _ _ b) e
   exact Po.mkL (s:=up s (s.heap.push { cls:=.type "slice",data:=.fields #[lo',hi',.none] }) s.toks) (n:=0) ((Po.step p2 gr).to fun _ _ _ z=>z.older gr) (hb.grow (zt _ _)) (zt _ _) (Heap.get?_push_size _ rfl) (((q.take _).drop _).imp fun _ _ z=>z.grow gr)
end
end Mine
namespace Mine
open PySem
inductive GI where
 |fn (f:Nat) | const (v:Val) | ty (t:String) | bi (b:String) | cls (c:Nat) | tab (f:Nat) | meth (f:Nat)
 deriving DecidableEq
noncomputable abbrev yd:=List (Str × GI)
noncomputable def qj (x:Str):Bool:=(x==("__debug__":Str))==false&&(x==("__classdict__":Str))==false
noncomputable def yj (g:yd) (sc:Scope) (x:Str) (i:GI):Bool:=sc.names.lookup x==some .globalImplicit&&qj x&&g.lookup x==some i
noncomputable def xP (sc:Scope) (sm:List (Str × Nat)) (x:Str) (i:Nat):Bool:=jL (sc.names.lookup x)&&qj x&&sm.lookup x==some i
noncomputable def qi:Str:="Table"
noncomputable def qk (nm:Str):Str:=("Table.":Str)++nm
noncomputable def kJ:Option GI->Bool
 |some (.tab _)=>true
 | _=>false
noncomputable def qU:Val->Const->Bool
 | .none,.none=>true
 | .bool b,.bool c=>b==c
 | .int i,.int j=>i==j
 | .str s,.str x=>decide (x=⟨s.toArray⟩)&&decide (s.length<=lim)
 | _,_=>false
noncomputable def zI:Expr->Bool
 | .Starred ..=>true
 | _=>false
noncomputable def wd:Expr->Bool
 | .Slice ..=>true
 | _=>false
noncomputable def Vu:Expr->Bool
 | .Call (.Name _ _) [] [] _=>false
 | _=>true
noncomputable def zY (inner outer:Scope):Scope:={ inner with names:=inner.names.map fun (n,k)=>if (k==.free&&outer.kind==.function&&outer.names.lookup n==some .cell) then (n,.cell) else (n,k) }
noncomputable def uN (inner outer:Scope) (x:Str):Bool :=
 inner.kind==.function&&inner.names.lookup x==some .local &&
 inner.names.all fun p=>p.2 != .cell&&(p.2 != .local||inner.names.lookup p.1==some .local)&&(p.2 != .free||(outer.names.lookup p.1==some .cell||outer.names.lookup p.1==some .free))
noncomputable def QK (inner outer:Scope):Bool :=
 inner.kind==.function &&
 inner.names.all fun p=>p.2 != .cell&&(p.2 != .local||inner.names.lookup p.1==some .local)&&(p.2 != .free||(outer.names.lookup p.1==some .cell||outer.names.lookup p.1==some .free))
noncomputable def Ag:Expr->Bool
 | .Tuple ..=>true
 | _=>false
noncomputable def Hc:BI->GI
 | .len=>.bi "len" | .sum=>.bi "sum" | .max=>.bi "max"
 | .int=>.ty "int" | .list=>.ty "list"
noncomputable def wO:Me->Str
 | .append=>"append"
 | .pop=>"pop"
 | .insert=>"insert"
noncomputable def Zi:za->Bool
 | .const (.bool true)=>true
 | _=>false
noncomputable def G0:za->Bool
 | .const .none=>true
 | _=>false
theorem UU {m:za} (h:Zi m=true):m=.const (.bool true):=by
 unfold Zi at h;split at h
 ·rfl
 ·exact no3 h
theorem UV {m:za} (h:G0 m=true):m=.const .none:=by
 unfold G0 at h;split at h
 ·rfl
 ·exact no3 h
structure Chk where
 E:Expr->Bool
 Es:List Expr->Bool
 I:Expr->Bool
noncomputable def ckE (f:Expr->Bool):Chk:=⟨f,fun _=>false,fun _=>false⟩
noncomputable def ckS (f:List Expr->Bool):Chk:=⟨fun _=>false,f,fun _=>false⟩
noncomputable def ckI (f:Expr->Bool):Chk:=⟨fun _=>false,fun _=>false,f⟩
noncomputable def EL (e:Expr):Nat:=@Expr.casesOn (fun _=>Nat) e (fun _ _ _=>0) (fun _ _ _=>1) (fun _ _ _ _=>2) (fun _ _ _=>3) (fun _ _ _ _=>4) (fun _ _ _ _=>5) (fun _ _ _=>6) (fun _ _ _=>7) (fun _ _ _ _=>8) (fun _ _ _ _=>9) (fun _ _ _ _ _=>10) (fun _ _ _ _=>11) (fun _ _=>12) (fun _ _=>13) (fun _ _=>14) (fun _ _ _ _=>15) (fun _ _ _ _=>16) (fun _ _ _ _=>17) (fun _ _=>18) (fun _ _ _=>19) (fun _ _ _=>20) (fun _ _ _=>21) (fun _ _=>22) (fun _ _=>23) (fun _ _=>24) (fun _ _ _=>25) (fun _ _ _ _=>26)
noncomputable def jh (k0:Const->Bool) (k1:Str->Bool) (k2:Expr->Operator->Expr->Bool) (k3:UnaryOp->Expr->Bool) (k4:BoolOp->List Expr->Pos->Bool) (k5:Expr->List CmpOp->List Expr->Bool) (k6:Expr->List Expr->Pos->Bool) (k7:Expr->Str->Pos->Bool) (k8:Expr->Expr->Bool) (k9:Option Expr->Option Expr->Option Expr->Bool) (k10:Expr->List Comprehension->Scope->Bool) (k11:List Expr->Bool) (k12:List Expr->Bool) (e:Expr):Bool:=@Expr.casesOn (fun _=>Bool) e (fun a b c=>k4 a b c) (fun _ _ _=>false) (fun a b c _=>k2 a b c) (fun a b _=>k3 a b) (fun _ _ _ _=>false) (fun _ _ _ _=>false) (fun _ _ _=>false) (fun _ _ _=>false) (fun a b c _=>k10 a b c) (fun _ _ _ _=>false) (fun _ _ _ _ _=>false) (fun _ _ _ _=>false) (fun _ _=>false) (fun _ _=>false) (fun _ _=>false) (fun a b c _=>k5 a b c) (fun a b c d=>c.casesOn (k6 a b d) fun _ _=>false) (fun _ _ _ _=>false) (fun _ _=>false) (fun a _ _=>k0 a) (fun a b c=>k7 a b c) (fun a b _=>k8 a b) (fun _ _=>false) (fun a _=>k1 a) (fun a _=>k11 a) (fun a _ _=>k12 a) (fun a b c _=>k9 a b c)
theorem yR {k0:Const->Bool} {k1:Str->Bool} {k2:Expr->Operator->Expr->Bool} {k3:UnaryOp->Expr->Bool} {k4:BoolOp->List Expr->Pos->Bool} {k5:Expr->List CmpOp->List Expr->Bool} {k6:Expr->List Expr->Pos->Bool} {k7:Expr->Str->Pos->Bool} {k8:Expr->Expr->Bool} {k9:Option Expr->Option Expr->Option Expr->Bool} {k10:Expr->List Comprehension->Scope->Bool} {k11:List Expr->Bool} {k12:List Expr->Bool} {P:Expr->Prop} (c0:∀ a b c,k0 a=true->P (.Constant a b c)) (c1:∀ a b,k1 a=true->P (.Name a b)) (c2:∀ a b c d,k2 a b c=true->P (.BinOp a b c d)) (c3:∀ a b c,k3 a b=true->P (.UnaryOp a b c)) (c4:∀ a b c,k4 a b c=true->P (.BoolOp a b c)) (c5:∀ a b c d,k5 a b c=true->P (.Compare a b c d)) (c6:∀ a b d,k6 a b d=true->P (.Call a b [] d)) (c7:∀ a b c,k7 a b c=true->P (.Attribute a b c)) (c8:∀ a b c,k8 a b=true->P (.Subscript a b c)) (c9:∀ a b c d,k9 a b c=true->P (.Slice a b c d)) (c10:∀ a b c d,k10 a b c=true->P (.ListComp a b c d)) (c11:∀ a b,k11 a=true->P (.List a b)) (c12:∀ a b c,k12 a=true->P (.Tuple a b c)):∀ {e:Expr},jh k0 k1 k2 k3 k4 k5 k6 k7 k8 k9 k10 k11 k12 e=true->P e:=fun {e}=>@Expr.casesOn (fun e=>jh k0 k1 k2 k3 k4 k5 k6 k7 k8 k9 k10 k11 k12 e=true->P e) e c4 (fun _ _ _ h=>no3 h) c2 c3 (fun _ _ _ _ h=>no3 h) (fun _ _ _ _ h=>no3 h) (fun _ _ _ h=>no3 h) (fun _ _ _ h=>no3 h) c10 (fun _ _ _ _ h=>no3 h) (fun _ _ _ _ _ h=>no3 h) (fun _ _ _ _ h=>no3 h) (fun _ _ h=>no3 h) (fun _ _ h=>no3 h) (fun _ _ h=>no3 h) c5 (fun a b c d=>@List.casesOn Keyword (fun c=>c.casesOn (k6 a b d) (fun _ _=>false)=true->P (.Call a b c d)) c (c6 a b d) fun _ _ h=>no3 h) (fun _ _ _ _ h=>no3 h) (fun _ _ h=>no3 h) c0 c7 c8 (fun _ _ h=>no3 h) c1 c11 c12 c9
noncomputable def jX (k:Const->Bool):Expr->Bool:=jh k (fun _=>false) (fun _ _ _=>false) (fun _ _=>false) (fun _ _ _=>false) (fun _ _ _=>false) (fun _ _ _=>false) (fun _ _ _=>false) (fun _ _=>false) (fun _ _ _=>false) (fun _ _ _=>false) (fun _=>false) (fun _=>false)
@[elab_as_elim] theorem jJ {k:Const->Bool} {e:Expr} {P:Expr->Prop} (h:jX k e=true) (cc:∀ c n p,k c=true->P (.Constant c n p)):P e:=yR cc (fun _ _ h=>no3 h) (fun _ _ _ _ h=>no3 h) (fun _ _ _ h=>no3 h) (fun _ _ _ h=>no3 h) (fun _ _ _ _ h=>no3 h) (fun _ _ _ h=>no3 h) (fun _ _ _ h=>no3 h) (fun _ _ _ h=>no3 h) (fun _ _ _ _ h=>no3 h) (fun _ _ _ _ h=>no3 h) (fun _ _ h=>no3 h) (fun _ _ _ h=>no3 h) h
theorem UD {k:Const->Bool} {e:Expr} (h:jX k e=true):∃ c n p,e=.Constant c n p/\k c=true:=jJ (P:=fun e=>∃ c n p,e=.Constant c n p/\k c=true) h fun c n p d=>⟨c,n,p,rfl,d⟩
noncomputable def yr (k:Str->Bool):Expr->Bool:=jh (fun _=>false) k (fun _ _ _=>false) (fun _ _=>false) (fun _ _ _=>false) (fun _ _ _=>false) (fun _ _ _=>false) (fun _ _ _=>false) (fun _ _=>false) (fun _ _ _=>false) (fun _ _ _=>false) (fun _=>false) (fun _=>false)
@[elab_as_elim] theorem zD {k:Str->Bool} {e:Expr} {P:Expr->Prop} (h:yr k e=true) (cc:∀ x p,k x=true->P (.Name x p)):P e:=yR (fun _ _ _ h=>no3 h) cc (fun _ _ _ _ h=>no3 h) (fun _ _ _ h=>no3 h) (fun _ _ _ h=>no3 h) (fun _ _ _ _ h=>no3 h) (fun _ _ _ h=>no3 h) (fun _ _ _ h=>no3 h) (fun _ _ _ h=>no3 h) (fun _ _ _ _ h=>no3 h) (fun _ _ _ _ h=>no3 h) (fun _ _ h=>no3 h) (fun _ _ _ h=>no3 h) h
theorem y9 {k:Str->Bool} {e:Expr} (h:yr k e=true):∃ x p,e=.Name x p/\k x=true:=zD (P:=fun e=>∃ x p,e=.Name x p/\k x=true) h fun x p d=>⟨x,p,rfl,d⟩
noncomputable def TD (k:Expr->Operator->Expr->Bool):Expr->Bool:=jh (fun _=>false) (fun _=>false) k (fun _ _=>false) (fun _ _ _=>false) (fun _ _ _=>false) (fun _ _ _=>false) (fun _ _ _=>false) (fun _ _=>false) (fun _ _ _=>false) (fun _ _ _=>false) (fun _=>false) (fun _=>false)
@[elab_as_elim] theorem V6 {k:Expr->Operator->Expr->Bool} {e:Expr} {P:Expr->Prop} (h:TD k e=true) (cc:∀ l o r p,k l o r=true->P (.BinOp l o r p)):P e:=yR (fun _ _ _ h=>no3 h) (fun _ _ h=>no3 h) cc (fun _ _ _ h=>no3 h) (fun _ _ _ h=>no3 h) (fun _ _ _ _ h=>no3 h) (fun _ _ _ h=>no3 h) (fun _ _ _ h=>no3 h) (fun _ _ _ h=>no3 h) (fun _ _ _ _ h=>no3 h) (fun _ _ _ _ h=>no3 h) (fun _ _ h=>no3 h) (fun _ _ _ h=>no3 h) h
noncomputable def HJ (k:UnaryOp->Expr->Bool):Expr->Bool:=jh (fun _=>false) (fun _=>false) (fun _ _ _=>false) k (fun _ _ _=>false) (fun _ _ _=>false) (fun _ _ _=>false) (fun _ _ _=>false) (fun _ _=>false) (fun _ _ _=>false) (fun _ _ _=>false) (fun _=>false) (fun _=>false)
@[elab_as_elim] theorem YE {k:UnaryOp->Expr->Bool} {e:Expr} {P:Expr->Prop} (h:HJ k e=true) (cc:∀ o x p,k o x=true->P (.UnaryOp o x p)):P e:=yR (fun _ _ _ h=>no3 h) (fun _ _ h=>no3 h) (fun _ _ _ _ h=>no3 h) cc (fun _ _ _ h=>no3 h) (fun _ _ _ _ h=>no3 h) (fun _ _ _ h=>no3 h) (fun _ _ _ h=>no3 h) (fun _ _ _ h=>no3 h) (fun _ _ _ _ h=>no3 h) (fun _ _ _ _ h=>no3 h) (fun _ _ h=>no3 h) (fun _ _ _ h=>no3 h) h
noncomputable def Va (k:BoolOp->List Expr->Pos->Bool):Expr->Bool:=jh (fun _=>false) (fun _=>false) (fun _ _ _=>false) (fun _ _=>false) k (fun _ _ _=>false) (fun _ _ _=>false) (fun _ _ _=>false) (fun _ _=>false) (fun _ _ _=>false) (fun _ _ _=>false) (fun _=>false) (fun _=>false)
@[elab_as_elim] theorem J9 {k:BoolOp->List Expr->Pos->Bool} {e:Expr} {P:Expr->Prop} (h:Va k e=true) (cc:∀ o es p,k o es p=true->P (.BoolOp o es p)):P e:=yR (fun _ _ _ h=>no3 h) (fun _ _ h=>no3 h) (fun _ _ _ _ h=>no3 h) (fun _ _ _ h=>no3 h) cc (fun _ _ _ _ h=>no3 h) (fun _ _ _ h=>no3 h) (fun _ _ _ h=>no3 h) (fun _ _ _ h=>no3 h) (fun _ _ _ _ h=>no3 h) (fun _ _ _ _ h=>no3 h) (fun _ _ h=>no3 h) (fun _ _ _ h=>no3 h) h
noncomputable def YK (k:Expr->List CmpOp->List Expr->Bool):Expr->Bool:=jh (fun _=>false) (fun _=>false) (fun _ _ _=>false) (fun _ _=>false) (fun _ _ _=>false) k (fun _ _ _=>false) (fun _ _ _=>false) (fun _ _=>false) (fun _ _ _=>false) (fun _ _ _=>false) (fun _=>false) (fun _=>false)
@[elab_as_elim] theorem Q9 {k:Expr->List CmpOp->List Expr->Bool} {e:Expr} {P:Expr->Prop} (h:YK k e=true) (cc:∀ l os rs p,k l os rs=true->P (.Compare l os rs p)):P e:=yR (fun _ _ _ h=>no3 h) (fun _ _ h=>no3 h) (fun _ _ _ _ h=>no3 h) (fun _ _ _ h=>no3 h) (fun _ _ _ h=>no3 h) cc (fun _ _ _ h=>no3 h) (fun _ _ _ h=>no3 h) (fun _ _ _ h=>no3 h) (fun _ _ _ _ h=>no3 h) (fun _ _ _ _ h=>no3 h) (fun _ _ h=>no3 h) (fun _ _ _ h=>no3 h) h
noncomputable def kY (k:Expr->List Expr->Pos->Bool):Expr->Bool:=jh (fun _=>false) (fun _=>false) (fun _ _ _=>false) (fun _ _=>false) (fun _ _ _=>false) (fun _ _ _=>false) k (fun _ _ _=>false) (fun _ _=>false) (fun _ _ _=>false) (fun _ _ _=>false) (fun _=>false) (fun _=>false)
@[elab_as_elim] theorem qa {k:Expr->List Expr->Pos->Bool} {e:Expr} {P:Expr->Prop} (h:kY k e=true) (cc:∀ f es p,k f es p=true->P (.Call f es [] p)):P e:=yR (fun _ _ _ h=>no3 h) (fun _ _ h=>no3 h) (fun _ _ _ _ h=>no3 h) (fun _ _ _ h=>no3 h) (fun _ _ _ h=>no3 h) (fun _ _ _ _ h=>no3 h) cc (fun _ _ _ h=>no3 h) (fun _ _ _ h=>no3 h) (fun _ _ _ _ h=>no3 h) (fun _ _ _ _ h=>no3 h) (fun _ _ h=>no3 h) (fun _ _ _ h=>no3 h) h
theorem UE {k:Expr->List Expr->Pos->Bool} {e:Expr} (h:kY k e=true):∃ f es p,e=.Call f es [] p/\k f es p=true:=qa (P:=fun e=>∃ f es p,e=.Call f es [] p/\k f es p=true) h fun f es p d=>⟨f,es,p,rfl,d⟩
noncomputable def jY (k:Str->List Expr->Bool):Expr->Bool:=kY fun f es _=>yr (fun x=>k x es) f
@[elab_as_elim] theorem yK {k:Str->List Expr->Bool} {e:Expr} {P:Expr->Prop} (h:jY k e=true) (cc:∀ x p es q,k x es=true->P (.Call (.Name x p) es [] q)):P e:=qa h fun f es q h=>zD (P:=fun f=>P (.Call f es [] q)) h fun x p d=>cc x p es q d
noncomputable def wK (k:Expr->Str->Pos->Bool):Expr->Bool:=jh (fun _=>false) (fun _=>false) (fun _ _ _=>false) (fun _ _=>false) (fun _ _ _=>false) (fun _ _ _=>false) (fun _ _ _=>false) k (fun _ _=>false) (fun _ _ _=>false) (fun _ _ _=>false) (fun _=>false) (fun _=>false)
@[elab_as_elim] theorem qG {k:Expr->Str->Pos->Bool} {e:Expr} {P:Expr->Prop} (h:wK k e=true) (cc:∀ o n p,k o n p=true->P (.Attribute o n p)):P e:=yR (fun _ _ _ h=>no3 h) (fun _ _ h=>no3 h) (fun _ _ _ _ h=>no3 h) (fun _ _ _ h=>no3 h) (fun _ _ _ h=>no3 h) (fun _ _ _ _ h=>no3 h) (fun _ _ _ h=>no3 h) cc (fun _ _ _ h=>no3 h) (fun _ _ _ _ h=>no3 h) (fun _ _ _ _ h=>no3 h) (fun _ _ h=>no3 h) (fun _ _ _ h=>no3 h) h
noncomputable def V3 (k:Expr->Expr->Bool):Expr->Bool:=jh (fun _=>false) (fun _=>false) (fun _ _ _=>false) (fun _ _=>false) (fun _ _ _=>false) (fun _ _ _=>false) (fun _ _ _=>false) (fun _ _ _=>false) k (fun _ _ _=>false) (fun _ _ _=>false) (fun _=>false) (fun _=>false)
@[elab_as_elim] theorem v7 {k:Expr->Expr->Bool} {e:Expr} {P:Expr->Prop} (h:V3 k e=true) (cc:∀ l r p,k l r=true->P (.Subscript l r p)):P e:=yR (fun _ _ _ h=>no3 h) (fun _ _ h=>no3 h) (fun _ _ _ _ h=>no3 h) (fun _ _ _ h=>no3 h) (fun _ _ _ h=>no3 h) (fun _ _ _ _ h=>no3 h) (fun _ _ _ h=>no3 h) (fun _ _ _ h=>no3 h) cc (fun _ _ _ _ h=>no3 h) (fun _ _ _ _ h=>no3 h) (fun _ _ h=>no3 h) (fun _ _ _ h=>no3 h) h
noncomputable def V4 (k:Option Expr->Option Expr->Option Expr->Bool):Expr->Bool:=jh (fun _=>false) (fun _=>false) (fun _ _ _=>false) (fun _ _=>false) (fun _ _ _=>false) (fun _ _ _=>false) (fun _ _ _=>false) (fun _ _ _=>false) (fun _ _=>false) k (fun _ _ _=>false) (fun _=>false) (fun _=>false)
@[elab_as_elim] theorem W6 {k:Option Expr->Option Expr->Option Expr->Bool} {e:Expr} {P:Expr->Prop} (h:V4 k e=true) (cc:∀ x y z p,k x y z=true->P (.Slice x y z p)):P e:=yR (fun _ _ _ h=>no3 h) (fun _ _ h=>no3 h) (fun _ _ _ _ h=>no3 h) (fun _ _ _ h=>no3 h) (fun _ _ _ h=>no3 h) (fun _ _ _ _ h=>no3 h) (fun _ _ _ h=>no3 h) (fun _ _ _ h=>no3 h) (fun _ _ _ h=>no3 h) cc (fun _ _ _ _ h=>no3 h) (fun _ _ h=>no3 h) (fun _ _ _ h=>no3 h) h
noncomputable def Q8 (k:Expr->List Comprehension->Scope->Bool):Expr->Bool:=jh (fun _=>false) (fun _=>false) (fun _ _ _=>false) (fun _ _=>false) (fun _ _ _=>false) (fun _ _ _=>false) (fun _ _ _=>false) (fun _ _ _=>false) (fun _ _=>false) (fun _ _ _=>false) k (fun _=>false) (fun _=>false)
@[elab_as_elim] theorem ug {k:Expr->List Comprehension->Scope->Bool} {e:Expr} {P:Expr->Prop} (h:Q8 k e=true) (cc:∀ e1 gs sc p,k e1 gs sc=true->P (.ListComp e1 gs sc p)):P e:=yR (fun _ _ _ h=>no3 h) (fun _ _ h=>no3 h) (fun _ _ _ _ h=>no3 h) (fun _ _ _ h=>no3 h) (fun _ _ _ h=>no3 h) (fun _ _ _ _ h=>no3 h) (fun _ _ _ h=>no3 h) (fun _ _ _ h=>no3 h) (fun _ _ _ h=>no3 h) (fun _ _ _ _ h=>no3 h) cc (fun _ _ h=>no3 h) (fun _ _ _ h=>no3 h) h
noncomputable def YI (k:List Expr->Bool):Expr->Bool:=jh (fun _=>false) (fun _=>false) (fun _ _ _=>false) (fun _ _=>false) (fun _ _ _=>false) (fun _ _ _=>false) (fun _ _ _=>false) (fun _ _ _=>false) (fun _ _=>false) (fun _ _ _=>false) (fun _ _ _=>false) k (fun _=>false)
@[elab_as_elim] theorem kB {k:List Expr->Bool} {e:Expr} {P:Expr->Prop} (h:YI k e=true) (cc:∀ l p,k l=true->P (.List l p)):P e:=yR (fun _ _ _ h=>no3 h) (fun _ _ h=>no3 h) (fun _ _ _ _ h=>no3 h) (fun _ _ _ h=>no3 h) (fun _ _ _ h=>no3 h) (fun _ _ _ _ h=>no3 h) (fun _ _ _ h=>no3 h) (fun _ _ _ h=>no3 h) (fun _ _ _ h=>no3 h) (fun _ _ _ _ h=>no3 h) (fun _ _ _ _ h=>no3 h) cc (fun _ _ _ h=>no3 h) h
noncomputable def J4 (k:List Expr->Bool):Expr->Bool:=jh (fun _=>false) (fun _=>false) (fun _ _ _=>false) (fun _ _=>false) (fun _ _ _=>false) (fun _ _ _=>false) (fun _ _ _=>false) (fun _ _ _=>false) (fun _ _=>false) (fun _ _ _=>false) (fun _ _ _=>false) (fun _=>false) k
@[elab_as_elim] theorem v6 {k:List Expr->Bool} {e:Expr} {P:Expr->Prop} (h:J4 k e=true) (cc:∀ l c p,k l=true->P (.Tuple l c p)):P e:=yR (fun _ _ _ h=>no3 h) (fun _ _ h=>no3 h) (fun _ _ _ _ h=>no3 h) (fun _ _ _ h=>no3 h) (fun _ _ _ h=>no3 h) (fun _ _ _ _ h=>no3 h) (fun _ _ _ h=>no3 h) (fun _ _ _ h=>no3 h) (fun _ _ _ h=>no3 h) (fun _ _ _ _ h=>no3 h) (fun _ _ _ _ h=>no3 h) (fun _ _ h=>no3 h) cc h
theorem K8 {k:List Expr->Bool} {e:Expr} (h:J4 k e=true):∃ l c p,e=.Tuple l c p/\k l=true:=v6 (P:=fun e=>∃ l c p,e=.Tuple l c p/\k l=true) h fun l c p d=>⟨l,c,p,rfl,d⟩
noncomputable def one {α:Type} (k:α->Bool):List α->Bool
 | [x]=>k x
 | _=>false
theorem YD {α:Type} {k:α->Bool} {l:List α} (h:one k l=true):∃ x,l=[x]/\k x=true:=by
 match l,h with
 | [x],h=>exact ⟨x,rfl,h⟩
@[elab_as_elim] theorem jo {α:Type} {k:α->Bool} {l:List α} {P:List α->Prop} (h:one k l=true) (cc:∀ x,k x=true->P ([x])):P l:=by
 refine ob12 (YD h) fun x ez16x1 d=>?_;subst ez16x1;exact cc x d
noncomputable def two {α:Type} (k:α->α->Bool):List α->Bool
 | [x,y]=>k x y
 | _=>false
theorem JM {α:Type} {k:α->α->Bool} {l:List α} (h:two k l=true):∃ x y,l=[x,y]/\k x y=true:=by
 match l,h with
 | [x,y],h=>exact ⟨x,y,rfl,h⟩
@[elab_as_elim] theorem JL {α:Type} {k:α->α->Bool} {l:List α} {P:List α->Prop} (h:two k l=true) (cc:∀ x y,k x y=true->P ([x,y])):P l:=by
 refine ob22 (JM h) fun x y ez17x2 d=>?_;subst ez17x2;exact cc x y d
noncomputable def WJ {α:Type} (k:α->α->List α->Bool):List α->Bool
 |x::y::r=>k x y r
 | _=>false
theorem Vr {α:Type} {k:α->α->List α->Bool} {l:List α} (h:WJ k l=true):∃ x y r,l=x::y::r/\k x y r=true:=by
 match l,h with
 |x::y::r,h=>exact ⟨x,y,r,rfl,h⟩
@[elab_as_elim] theorem WI {α:Type} {k:α->α->List α->Bool} {l:List α} {P:List α->Prop} (h:WJ k l=true) (cc:∀ x y r,k x y r=true->P (x::y::r)):P l:=by
 refine ob32 (Vr h) fun x y r ez18x3 d=>?_;subst ez18x3;exact cc x y r d
noncomputable def Wt:BoolOp->Bool
 | .And=>true
 | .Or=>false
theorem Vg {o:BoolOp} (h:Wt o=true):o=.And:=by cases o;rfl;exact no3 h
theorem Xg {o:BoolOp} (h:(!Wt o)=true):o=.Or:=by cases o;exact no3 h;rfl
noncomputable def Q5 (k:Str->Str->Bool) (e:Expr):Bool:=J4 (fun l=>two (fun a b=>yr (fun x=>yr (fun y=>k x y) b) a) l) e
theorem J7 {k:Str->Str->Bool} {e:Expr} (h:Q5 k e=true):∃ x px y py c p,e=.Tuple [.Name x px,.Name y py] c p/\k x y=true:=by
 refine ob32 (K8 h) fun l c p ez21x3 h=>?_;subst ez21x3
 refine ob22 (JM h) fun a b ez22x2 h=>?_;subst ez22x2
 refine ob22 (y9 h) fun x px ez23x2 h=>?_;subst ez23x2
 refine ob22 (y9 h) fun y py ez24x2 h=>?_;subst ez24x2
 exact ⟨x,px,y,py,c,p,rfl,h⟩
@[elab_as_elim] theorem J6 {k:Str->Str->Bool} {e:Expr} {P:Expr->Prop} (h:Q5 k e=true) (cc:∀ x px y py c p,k x y=true->P (.Tuple [.Name x px,.Name y py] c p)):P e:=by
 refine ob62 (J7 h) fun x px y py c p ez25x6 d=>?_;subst ez25x6;exact cc x px y py c p d
noncomputable def WK (inner outer:Scope) (sm:List (Str × Nat)) (x y:Str) (i j:Nat):Bool :=
 QK inner outer&&inner.names.lookup x==some .local&&inner.names.lookup y==some .local&&(inner.names.all fun p=>p.2 != .local||p.1==x||p.1==y||(sm.lookup p.1).isNone)&&(sm.all fun p=>p.2 != i&&p.2 != j)&&decide (i≠j)&&decide (x≠y)&&qj x&&qj y
noncomputable def chk (g:yd):za->Scope->List (Str × Nat)->Chk
 | .const v,_,_=>ckE (jX fun c=>qU v c)
 | .gconst v,sc,_=>ckE (yr fun x=>yj g sc x (.const v))
 | .loc i,sc,sm=>ckE (yr fun x=>xP sc sm x i)
 | .bin op a b,sc,sm=>ckE (TD fun l o r=>decide (op=o)&&(chk g a sc sm).E l&&(chk g b sc sm).E r)
 | .un op a,sc,sm=>ckE (HJ fun o x=>decide (op=o)&&(chk g a sc sm).E x)
 | .and a b,sc,sm=>ckE (Va fun o es p=>Wt o&&WJ (fun x y r=>(chk g a sc sm).E x&&(chk g b sc sm).E (match r with | []=>y | _=>.BoolOp .And (y::r) p)) es)
 | .or a b,sc,sm=>ckE (Va fun o es p=>!Wt o&&WJ (fun x y r=>(chk g a sc sm).E x&&(chk g b sc sm).E (match r with | []=>y | _=>.BoolOp .Or (y::r) p)) es)
 | .cmp op a b,sc,sm=>ckE (YK fun l os rs=>one (fun o=>one (fun r=>decide (op=o)&&(chk g a sc sm).E l&&(chk g b sc sm).E r&&!behindInMarks o r) rs) os)
 | .cmp2 op₁ op₂ a b c,sc,sm=>ckE (YK fun l os rs=>two (fun o₁ o₂=>two (fun r₁ r₂=>decide (op₁=o₁)&&decide (op₂=o₂)&&(chk g a sc sm).E l&&(chk g b sc sm).E r₁&&(chk g c sc sm).E r₂&&!lastMarks [o₁,o₂] [r₁,r₂]) rs) os)
 | .isinst t a,sc,sm=>ckE (jY fun x es=>two (fun y zz=>yr (fun z=>yj g sc x (.bi "isinstance")&&yj g sc z (.ty (QT t))&&(chk g a sc sm).E y&&!zI y) zz) es)
 | .call f args,sc,sm=>ckE (jY fun x es=>yj g sc x (.fn f)&&(chk g args sc sm).Es es)
 | .bi b args,sc,sm=>ckE (jY fun x es=>yj g sc x (Hc b)&&(chk g args sc sm).Es es)
 | .meth m o args,sc,sm=>ckE (kY fun f es pos=>wK (fun eo nm apos=>decide (nm=wO m)&&(chk g o sc sm).E eo&&(chk g args sc sm).Es es&&apos.endLine==pos.line&&Vu eo&&decide (es.length<20)) f)
 | .lst a,sc,sm=>ckE (YI fun l=>(chk g a sc sm).Es l)
 | .tup a,sc,sm=>ckE (J4 fun l=>(chk g a sc sm).Es l)
 | .sub a b,sc,sm=>ckE (V3 fun l r=>(chk g a sc sm).E l&&(chk g b sc sm).E r&&!wd r)
 | .slice a lo hi,sc,sm=>ckE (V3 fun l r=>V4 (fun x y z=>z.isNone&&((chk g a sc sm).E l&&(chk g lo sc sm).Es x.toList&&(chk g hi sc sm).Es y.toList)) r)
 | .comp elt tgt it cond,sc,sm=>ckE (Q8 fun e1 gs sc'=>match zQ tgt with
   |some i=>one (fun gn=>yr (fun x=>gn.is_async==0&&uN sc' sc x&&(sc'.names.all fun p=>p.2 != .local||p.1==x||(sm.lookup p.1).isNone)&&qj x&&sm.all (fun p=>p.2 != i)&&(chk g it sc sm).I gn.iter &&
     (chk g elt (zY sc' sc) ((x,i)::sm)).E e1 &&
     (match gn.ifs with | []=>Zi cond | [c]=>(chk g cond (zY sc' sc) ((x,i)::sm)).E c | _=>false)) gn.target) gs
   |none=>false)
 | .attr o k,sc,sm=>ckE (wK fun eo nm _=>kJ (g.lookup qi)&&decide (nm=ze k)&&decide (k<3)&&yr (fun _=>true) eo&&(chk g o sc sm).E eo)
 | .mcall f o args,sc,sm=>ckE (kY fun fe es pos=>wK (fun eo nm apos=>kJ (g.lookup qi)&&g.lookup (qk nm)==some (.meth f)&&!([ze 0,ze 1,ze 2].contains nm)&&yr (fun _=>true) eo&&(chk g o sc sm).E eo&&(chk g args sc sm).Es es&&apos.endLine==pos.line&&decide (es.length<20)) fe)
 | .newT f,sc,_=>ckE (jY fun x es=>yj g sc x (.tab f)&&decide (x=qi)&&es.isEmpty)
 | .compp elt i j a cond,sc,sm=>ckE (Q8 fun e1 gs sc'=>one (fun gn=>Q5 (fun x y=>gn.is_async==0&&WK sc' sc sm x y i j&&(chk g a sc sm).E gn.iter&&(chk g elt (zY sc' sc) ((x,i)::(y,j)::sm)).E e1 &&
   (match gn.ifs with | []=>Zi cond | [c]=>(chk g cond (zY sc' sc) ((x,i)::(y,j)::sm)).E c | _=>false)) gn.target) gs)
 | .compq elt i j a b,sc,sm=>ckE (Q8 fun e1 gs sc'=>one (fun gn=>Q5 (fun x y=>gn.is_async==0&&gn.ifs.isEmpty&&WK sc' sc sm x y i j&&(chk g elt (zY sc' sc) ((x,i)::(y,j)::sm)).E e1 &&
   jY (fun z es=>yj g sc z (.ty "zip")&&two (fun y1 z1=>(chk g a sc sm).E y1&&(chk g b sc sm).E z1&&!zI y1&&!zI z1) es) gn.iter) gn.target) gs)
 | .nil,_,_=>ckS fun es=>es.isEmpty
 | .cons a b,sc,sm=>ckS fun es=>match es with | e::r=>(chk g a sc sm).E e&&!zI e&&(chk g b sc sm).Es r | []=>false
 | .irange a,sc,sm=>ckI (jY fun x es=>one (fun y=>yj g sc x (.ty "range")&&(chk g a sc sm).E y&&!zI y) es)
 | .irange2 a b,sc,sm=>ckI (jY fun x es=>two (fun y z=>yj g sc x (.ty "range")&&(chk g a sc sm).E y&&(chk g b sc sm).E z&&!zI y&&!zI z) es)
 | .iobj a,sc,sm=>ckI fun e=>(chk g a sc sm).E e
noncomputable def jf:Expr->Bool
 | .ListComp .. | .SetComp .. | .DictComp ..=>true
 | _=>false
noncomputable def UX (e:za):Bool:=match e with
 | .comp _ _ _ _=>true
 | .compp _ _ _ _ _=>true
 | .compq _ _ _ _ _=>true
 | _=>false
noncomputable def EJ (e:za):Prop:=(∃ a b c d,e=.comp a b c d)\/(∃ a b c d k,e=.compp a b c d k)\/∃ a b c d k,e=.compq a b c d k
theorem UW {e:za} (h:UX e=true):EJ e:=by
 cases e <;> first | exact no3 h | exact .inl ⟨_,_,_,_,rfl⟩ | exact .inr (.inl ⟨_,_,_,_,_,rfl⟩) | exact .inr (.inr ⟨_,_,_,_,_,rfl⟩)
noncomputable def ut:Expr->Bool
 | .Tuple ..=>true
 | _=>false
noncomputable def stK (sc:Scope) (sm:List (Str × Nat)) (x:Str) (i:Nat):Bool:=(sc.names.lookup x==some .local||sc.names.lookup x==some .cell)&&qj x&&sm.lookup x==some i
noncomputable def kR (sc:Scope) (sm:List (Str × Nat)):List Nat->List Expr->Bool
 | [],es=>es.isEmpty
 |i::is,es=>(match es with | []=>false | e::r=>yr (fun x=>stK sc sm x i) e&&kR sc sm is r)
noncomputable def ZO (sc:Scope) (sm:List (Str × Nat)) (t:za) (e:Expr):Bool:=match zQ t with
 |some i=>yr (fun x=>stK sc sm x i) e
 |none=>false
noncomputable def vW (k0:Expr->Expr->Bool) (k1:Expr->Bool) (k2:Expr->List Stmt->List Stmt->Bool) (k3:Expr->Expr->List Stmt->Bool) (k4:Expr->List Stmt->Bool) (k5:Option Expr->Bool) (k6:Expr->Bool) (k7:List Stmt->List ExceptHandler->Bool) (s:Stmt):Bool:=@Stmt.casesOn (fun _=>Bool) s (fun _ _ _ _ _ _ _ _ _ _=>false) (fun _ _ _ _ _ _ _ _ _ _=>false) (fun _ _ _ _ _ _ _ _ _ _ _=>false) (fun a _=>k5 a) (fun _ _=>false) (fun a b _=>a.casesOn false fun t r=>r.casesOn (k0 t b) fun _ _=>false) (fun _ _ _ _ _ _ _=>false) (fun _ _ _ _=>false) (fun _ _ _ _ _=>false) (fun a b c d _=>d.casesOn (k3 a b c) fun _ _=>false) (fun _ _ _ _ _=>false) (fun a b d _=>d.casesOn (k4 a b) fun _ _=>false) (fun a b c _=>k2 a b c) (fun _ _ _=>false) (fun _ _ _=>false) (fun _ _ _=>false) (fun a b _=>a.casesOn false fun e=>b.casesOn (k6 e) fun _=>false) (fun a b c d _=>c.casesOn (d.casesOn (k7 a b) fun _ _=>false) fun _ _=>false) (fun _ _ _ _ _=>false) (fun _ _ _=>false) (fun _ _=>false) (fun _ _ _ _=>false) (fun _ _=>false) (fun _ _=>false) (fun a _=>k1 a) (fun _=>false) (fun _=>false) (fun _=>false)
theorem jm {k0:Expr->Expr->Bool} {k1:Expr->Bool} {k2:Expr->List Stmt->List Stmt->Bool} {k3:Expr->Expr->List Stmt->Bool} {k4:Expr->List Stmt->Bool} {k5:Option Expr->Bool} {k6:Expr->Bool} {k7:List Stmt->List ExceptHandler->Bool} {P:Stmt->Prop} (c0:∀ t v p,k0 t v=true->P (.Assign [t] v p)) (c1:∀ v p,k1 v=true->P (.Expr v p)) (c2:∀ x y z p,k2 x y z=true->P (.If x y z p)) (c3:∀ x y z p,k3 x y z=true->P (.For x y z [] p)) (c4:∀ x y p,k4 x y=true->P (.While x y [] p)) (c5:∀ v p,k5 v=true->P (.Return v p)) (c6:∀ e p,k6 e=true->P (.Raise (some e) none p)) (c7:∀ y hs p,k7 y hs=true->P (.Try y hs [] [] p)) {s:Stmt}:vW k0 k1 k2 k3 k4 k5 k6 k7 s=true->P s:=by
 intro h
 cases s with
 |Assign ts v p =>
  cases ts with
  |nil=>exact no3 h
  |cons t r =>
   cases r with
   |nil=>exact c0 t v p h
   |cons=>exact no3 h
 |For x y z o p =>
  cases o with
  |nil=>exact c3 x y z p h
  |cons=>exact no3 h
 |While x y o p =>
  cases o with
  |nil=>exact c4 x y p h
  |cons=>exact no3 h
 |Raise a b p =>
  cases a with
  |none=>exact no3 h
  |some e =>
   cases b with
   |none=>exact c6 e p h
   |some=>exact no3 h
 |Try y hs o f p =>
  cases o with
  |nil =>
   cases f with
   |nil=>exact c7 y hs p h
   |cons=>exact no3 h
  |cons=>exact no3 h
 |Expr v p=>exact c1 v p h
 |If x y z p=>exact c2 x y z p h
 |Return v p=>exact c5 v p h
 | _=>exact no3 h
noncomputable def jK (k:Expr->Expr->Bool):Stmt->Bool:=vW k (fun _=>false) (fun _ _ _=>false) (fun _ _ _=>false) (fun _ _=>false) (fun _=>false) (fun _=>false) (fun _ _=>false)
@[elab_as_elim] theorem jq {k:Expr->Expr->Bool} {s:Stmt} {P:Stmt->Prop} (h:jK k s=true) (cc:∀ t v p,k t v=true->P (.Assign [t] v p)):P s:=jm cc (fun _ _ h=>no3 h) (fun _ _ _ _ h=>no3 h) (fun _ _ _ _ h=>no3 h) (fun _ _ _ h=>no3 h) (fun _ _ h=>no3 h) (fun _ _ h=>no3 h) (fun _ _ _ h=>no3 h) h
noncomputable def Q7 (k:Expr->Bool):Stmt->Bool:=vW (fun _ _=>false) k (fun _ _ _=>false) (fun _ _ _=>false) (fun _ _=>false) (fun _=>false) (fun _=>false) (fun _ _=>false)
@[elab_as_elim] theorem Qm {k:Expr->Bool} {s:Stmt} {P:Stmt->Prop} (h:Q7 k s=true) (cc:∀ v p,k v=true->P (.Expr v p)):P s:=jm (fun _ _ _ h=>no3 h) cc (fun _ _ _ _ h=>no3 h) (fun _ _ _ _ h=>no3 h) (fun _ _ _ h=>no3 h) (fun _ _ h=>no3 h) (fun _ _ h=>no3 h) (fun _ _ _ h=>no3 h) h
noncomputable def YJ (k:Expr->List Stmt->List Stmt->Bool):Stmt->Bool:=vW (fun _ _=>false) (fun _=>false) k (fun _ _ _=>false) (fun _ _=>false) (fun _=>false) (fun _=>false) (fun _ _=>false)
@[elab_as_elim] theorem V5 {k:Expr->List Stmt->List Stmt->Bool} {s:Stmt} {P:Stmt->Prop} (h:YJ k s=true) (cc:∀ x y z p,k x y z=true->P (.If x y z p)):P s:=jm (fun _ _ _ h=>no3 h) (fun _ _ h=>no3 h) cc (fun _ _ _ _ h=>no3 h) (fun _ _ _ h=>no3 h) (fun _ _ h=>no3 h) (fun _ _ h=>no3 h) (fun _ _ _ h=>no3 h) h
noncomputable def Q6 (k:Expr->Expr->List Stmt->Bool):Stmt->Bool:=vW (fun _ _=>false) (fun _=>false) (fun _ _ _=>false) k (fun _ _=>false) (fun _=>false) (fun _=>false) (fun _ _=>false)
@[elab_as_elim] theorem uf {k:Expr->Expr->List Stmt->Bool} {s:Stmt} {P:Stmt->Prop} (h:Q6 k s=true) (cc:∀ x y z p,k x y z=true->P (.For x y z [] p)):P s:=jm (fun _ _ _ h=>no3 h) (fun _ _ h=>no3 h) (fun _ _ _ _ h=>no3 h) cc (fun _ _ _ h=>no3 h) (fun _ _ h=>no3 h) (fun _ _ h=>no3 h) (fun _ _ _ h=>no3 h) h
noncomputable def J3 (k:Expr->List Stmt->Bool):Stmt->Bool:=vW (fun _ _=>false) (fun _=>false) (fun _ _ _=>false) (fun _ _ _=>false) k (fun _=>false) (fun _=>false) (fun _ _=>false)
@[elab_as_elim] theorem K7 {k:Expr->List Stmt->Bool} {s:Stmt} {P:Stmt->Prop} (h:J3 k s=true) (cc:∀ x y p,k x y=true->P (.While x y [] p)):P s:=jm (fun _ _ _ h=>no3 h) (fun _ _ h=>no3 h) (fun _ _ _ _ h=>no3 h) (fun _ _ _ _ h=>no3 h) cc (fun _ _ h=>no3 h) (fun _ _ h=>no3 h) (fun _ _ _ h=>no3 h) h
noncomputable def wJ (k:Option Expr->Bool):Stmt->Bool:=vW (fun _ _=>false) (fun _=>false) (fun _ _ _=>false) (fun _ _ _=>false) (fun _ _=>false) k (fun _=>false) (fun _ _=>false)
@[elab_as_elim] theorem kA {k:Option Expr->Bool} {s:Stmt} {P:Stmt->Prop} (h:wJ k s=true) (cc:∀ v p,k v=true->P (.Return v p)):P s:=jm (fun _ _ _ h=>no3 h) (fun _ _ h=>no3 h) (fun _ _ _ _ h=>no3 h) (fun _ _ _ _ h=>no3 h) (fun _ _ _ h=>no3 h) cc (fun _ _ h=>no3 h) (fun _ _ _ h=>no3 h) h
noncomputable def J5 (k:Expr->Bool):Stmt->Bool:=vW (fun _ _=>false) (fun _=>false) (fun _ _ _=>false) (fun _ _ _=>false) (fun _ _=>false) (fun _=>false) k (fun _ _=>false)
@[elab_as_elim] theorem K9 {k:Expr->Bool} {s:Stmt} {P:Stmt->Prop} (h:J5 k s=true) (cc:∀ e p,k e=true->P (.Raise (some e) none p)):P s:=jm (fun _ _ _ h=>no3 h) (fun _ _ h=>no3 h) (fun _ _ _ _ h=>no3 h) (fun _ _ _ _ h=>no3 h) (fun _ _ _ h=>no3 h) (fun _ _ h=>no3 h) cc (fun _ _ _ h=>no3 h) h
noncomputable def YG (k:List Stmt->List ExceptHandler->Bool):Stmt->Bool:=vW (fun _ _=>false) (fun _=>false) (fun _ _ _=>false) (fun _ _ _=>false) (fun _ _=>false) (fun _=>false) (fun _=>false) k
@[elab_as_elim] theorem YF {k:List Stmt->List ExceptHandler->Bool} {s:Stmt} {P:Stmt->Prop} (h:YG k s=true) (cc:∀ y hs p,k y hs=true->P (.Try y hs [] [] p)):P s:=jm (fun _ _ _ h=>no3 h) (fun _ _ h=>no3 h) (fun _ _ _ _ h=>no3 h) (fun _ _ _ _ h=>no3 h) (fun _ _ _ h=>no3 h) (fun _ _ h=>no3 h) (fun _ _ h=>no3 h) cc h
structure Hh where
 S:Stmt->Bool
 Ss:List Stmt->Bool
noncomputable def csS (f:Stmt->Bool):Hh:=⟨f,fun _=>false⟩
noncomputable def csL (f:List Stmt->Bool):Hh:=⟨fun _=>false,f⟩
noncomputable def GZ:Const->Bool
 | .str _=>true
 | _=>false
noncomputable def YH (k:Expr->Bool):Stmt->Bool:=wJ fun v=>match v with | some e=>k e | none=>false
noncomputable def Aq (g:yd) (sc:Scope) (sm:List (Str × Nat)) (k:Nat × Bool × Val) (h:ExceptHandler):Bool:=match h with
 | .ExceptHandler (some t) nm body _=>yr (fun x=>yj g sc x (.cls k.1)) t&&one (YH fun e=>match nm with
   |none=>!k.2.1&&jX (fun c=>qU k.2.2 c) e
   |some _=>false) body
 | .ExceptHandler none _ _ _=>false
noncomputable def U8 (g:yd) (sc:Scope) (sm:List (Str × Nat)):List (Nat × Bool × Val)->List ExceptHandler->Bool
 | [],l=>l.isEmpty
 |k::r,l=>(match l with | []=>false | h::r'=>Aq g sc sm k h&&U8 g sc sm r r')
noncomputable def uQ (g:yd) (sc:Scope) (sm:List (Str × Nat)):zk->Hh
 | .nil=>csL fun l=>l.isEmpty
 | .cons a b=>csL fun l=>match l with | s::r=>(uQ g sc sm a).S s&&(uQ g sc sm b).Ss r | []=>false
 | .assign i e=>csS (jK fun t v=>yr (fun x=>stK sc sm x i) t&&(chk g e sc sm).E v&&(!jf v||UX e))
 | .asub o i e=>csS (jK fun t v=>V3 (fun eo ei=>(chk g e sc sm).E v&&(chk g o sc sm).E eo&&(chk g i sc sm).E ei&&!wd ei) t)
 | .aattr o k e=>csS (jK fun t v=>wK (fun eo nm _=>kJ (g.lookup qi)&&decide (nm=ze k)&&decide (k<3)&&yr (fun _=>true) eo&&(chk g o sc sm).E eo&&(chk g e sc sm).E v&&!jf v) t)
 | .atup ts e=>csS (jK fun t v=>J4 (fun l=>kR sc sm ts l&&(chk g e sc sm).E v&&!ut v&&!jf v) t)
 | .expr e=>csS (Q7 fun v=>(chk g e sc sm).E v&&!jf v)
 | .ifs c t e=>csS (YJ fun x y z=>(chk g c sc sm).E x&&(uQ g sc sm t).Ss y&&(uQ g sc sm e).Ss z)
 | .fors tgt it b=>csS (Q6 fun x y z=>ZO sc sm tgt x&&(chk g it sc sm).I y&&(uQ g sc sm b).Ss z)
 | .forp i j c v=>csS (Q6 fun x y z=>yr (fun x=>stK sc sm x i) x&&(chk g (.sub (.loc j) (.const (.int 0))) sc sm).E y&&one (YJ fun a b d=>(chk g c sc sm).E a&&one (YH fun e=>true&&jX (fun k=>qU v k) e) b&&d.isEmpty) z)
 | .fora i j e=>csS (Q6 fun x y z=>yr (fun x=>stK sc sm x i&&(chk g (.sub (.loc j) (.const (.int 0))) sc sm).E y&&one (Q7 fun a=>kY (fun fe es pos=>wK (fun eo nm apos=>yr (fun x'=>decide (x'=x)) eo&&decide (nm=wO .append)&&apos.endLine==pos.line&&one (fun e1=>(chk g e sc sm).E e1&&!zI e1) es) fe) a) z) x)
 | .whiles c b=>csS (J3 fun x y=>(chk g c sc sm).E x&&(uQ g sc sm b).Ss y)
 | .ret e=>csS (wJ fun v=>match v with | some v=>(chk g e sc sm).E v | none=>G0 e)
 | .raise c=>csS (J5 fun e=>jY (fun x es=>yj g sc x (.cls c)&&one (jX GZ) es) e)
 | .tryx b hs=>csS (YG fun y l=>(uQ g sc sm b).Ss y&&!hs.isEmpty&&U8 g sc sm hs l)
noncomputable def JA (g:yd) (names:List Str) (params:Arguments) (sc:Scope) (body:List Stmt) (d:zr):Bool :=
 params.posonlyargs.isEmpty&&params.kwonlyargs.isEmpty&&params.vararg.isNone&&params.kwarg.isNone&&params.defaults.isEmpty&&params.kw_defaults.isEmpty &&
 decide (params.args.map (·.arg)=names.take d.np)&&decide (names.Nodup)&&decide (d.np<=names.length)&&decide (names.length<=d.ns) &&
 sc.kind==.function&&sc.isGenerator==false&&sc.isCoroutine==false &&
 (names.all fun x=>sc.names.lookup x==some .local||sc.names.lookup x==some .cell) &&
 (sc.names.all fun p=>p.2 != .free)&&decide (((cellsFrom 0 sc.names []).map (·.1)).Nodup)&&(uQ g sc names.zipIdx d.body).Ss body
section
variable {S:Su} {f:Fr} {ρ:VS} {o:Own} {s:Shared}
theorem ST.plain {m:za} {e:Expr} (h:SE S m e) (he:∀ env whole,isTrue e env whole=(do let v <- whole;standAt e.pos;holding [v] (truthy v))):ST S m e:=fun cx p =>
 wpAny_isTrue_value (h.bind cx p fun t v h1 tk r g hv q=>vR (s:=up _ h1 tk) r hv q) (he _ _)
theorem Ym {v:Val} {c:Const} {k:Nat} {pos:Pos} (h:qU v c=true):SE S (.const v) (.Constant c k pos):=fun {f ρ o s Q} cx p=>by
 cases v with
 |none =>
  cases c with
  |none=>exact wpAny_Constant_none (Po.here' p cx.rel (.sc rfl))
  | _=>exact no3 h
 |bool a =>
  cases c with
  |bool b=>exact wpAny_Constant_bool (Po.here' p cx.rel (.sc (congrArg Value.bool (beq_iff_eq.mp h).symm)))
  | _=>exact no3 h
 |int a =>
  cases c with
  |int b=>exact wpAny_Constant_int (Po.here p cx.rel (.sc ⟨_,congrArg (Value.int · _) (beq_iff_eq.mp h).symm⟩))
  | _=>exact no3 h
 |str a =>
  cases c with
  |str b =>
   refine zc (and_eq_true_iff.mp h) fun h1 h2=>?_
   exact wpAny_Constant_str (Po.here p cx.rel (.sc ⟨of_decide_eq_true h2,_,congrArg (Value.str · _) (of_decide_eq_true h1)⟩))
  | _=>exact no3 h
theorem wb {x:Str} (h:qj x=true):(x==("__debug__":Str))=false:=by
 unfold qj at h;simp only [and_eq_true,beq_iff_eq] at h;exact h.1
theorem Y6 {x:Str} (h:qj x=true):(x==("__classdict__":Str))=false:=by
 unfold qj at h;simp only [and_eq_true,beq_iff_eq] at h;exact h.2
theorem Po.loc {α:Type} {V:Heap->Tr->α->Prop} {Q:α->Shared->Prop} {i:Nat} (p:Po S f o V Q s (yx i ρ)):∃ t,ρ[i]?=some (some t)/\Po S f o V Q s (.ok t):=by
 unfold yx at p
 revert p;cases ρ[i]? with
 |none=>intro p;exact p.elim
 |some x=>intro p;cases x with
  |none=>exact p.elim
  |some t=>exact ⟨t,rfl,p⟩
theorem ya {sc:Scope} {sm:List (Str × Nat)} {x:Str} {i:Nat} (h:xP sc sm x i=true):jL (sc.names.lookup x)=true/\qj x=true/\sm.lookup x=some i:=by
 refine zc (and_eq_true_iff.mp h) fun h1 h2=>?_
 refine zc (and_eq_true_iff.mp h1) fun h0 h1=>?_
 exact ⟨h0,h1,beq_iff_eq.mp h2⟩
theorem jB {x:Str} {v:Value} {pos:Pos} {Q:Value->Shared->Prop} {E:Value->Shared->Prop} (fr:Frm f.env s.heap) (h2:qj x=true) (b:yG f.env s.heap x v) (hQ:Q v s):wpAny S.M f.A (eval (.Name x pos) f.env) Q E s:=by
 refine wpAny_Name ?_ (wb h2)
 clear pos;rcases b with ⟨k,m,hn,hm⟩ | ⟨k | k,c,hc,hi⟩
 ·exact wpAny_loadName_local fr.kind k hn hm hQ
 ·exact wpAny_loadName_cell fr.kind k hc hi hQ
 ·exact wpAny_loadName_free fr.kind k hc hi hQ (Y6 h2)
theorem Gy {i:Nat} {x:Str} {pos:Pos} (h:xP S.sc S.sm x i=true):SE S (.loc i) (.Name x pos):=fun {f ρ o s Q} cx p=>by
 refine yP (ya h) fun h1 h2 h3=>?_
 refine ob12 (Po.loc p) fun t hv p=>?_
 refine ob12 (cx.get (by rw [cx.kind];exact h1) h3 hv) fun u b r=>?_
 exact jB cx.frm h2 b (p.here' cx.rel r)
theorem Ye {op:Operator} {a b:za} {l r:Expr} {pos:Pos} (ha:SE S a l) (hb:SE S b r):SR S (.bin op a b) (.BinOp l op r pos):=fun cx p =>
 wpAny_BinOp (ha.bind cx p fun t v h1 tk r g hv q=>hb.bind (s:=up _ h1 tk) (cx.grow r g) q fun u w h2 tk2 r2 g2 hu q2=>T6 (s:=up _ h2 tk2) r2 (hv.grow g2) hu (q2.to fun _ _ _ z=>z.older fun b ob e=>g2 b ob (g b ob e)))
theorem Tu {op:UnaryOp} {a:za} {x:Expr} {pos:Pos} (ha:SE S a x):SE S (.un op a) (.UnaryOp op x pos):=fun cx p =>
 wpAny_UnaryOp (ha.bind cx p fun t v h1 tk r g hv q=>Hn (s:=up _ h1 tk) r hv q)
theorem Y2 {x:Ex Tr} {V:Heap->Bool->Bool->Prop} {Q:Bool->Shared->Prop} (p:Po S f o V Q s ((x.bind fun t=>tUn .Not t).bind fun t=>Ex.opt (zd t))):Po S f o V Q s (x.bind fun t=>(Ex.opt (zd t)).bind fun b=>.ok (!b)):=by
 cases x with
 |ok t =>
  have p:Po S f o V Q s ((xz t).bind fun t=>Ex.opt (zd t)):=p
  unfold xz at p
  show Po S f o V Q s ((Ex.opt (zd t)).bind fun b=>.ok (!b))
  revert p;cases zd t with
  |none=>intro p;exact p
  |some b=>intro p;exact p
 | _=>exact p
theorem Gn {a:za} {x:Expr} {pos:Pos} (ta:ST S a x):ST S (.un .Not a) (.UnaryOp .Not x pos):=fun {f ρ o s Q} cx p =>
 wpAny_isTrue_Not (ta.bind cx (Y2 p) fun b h1 tk r g q=>Po.here' (s:=up s h1 tk) q r rfl)
theorem Jt (op:BoolOp) (y:Expr) (p:Pos) (env:Env):eval (.BoolOp op [y] p) env=eval y env:=by
 rw [arm_eval_BoolOp];rfl
theorem wu (op:BoolOp) (x y:Expr) (r:List Expr) (p:Pos) (env:Env):eval (.BoolOp op (x::y::r) p) env=(do
  let v <- eval x env
  standAt p
  let t <- holding [v] (truthy v)
  match op,t with
  | .And,false | .Or,true=>pure v
  | _,_=>eval (.BoolOp op (y::r) p) env):=by
 rw [arm_eval_BoolOp,arm_eval_BoolOp];rfl
noncomputable def w8 (op:BoolOp) (y:Expr) (r:List Expr) (p:Pos):Expr:=match r with | []=>y | _=>.BoolOp op (y::r) p
theorem uI (op:BoolOp) (y:Expr) (r:List Expr) (p:Pos) (env:Env):eval (.BoolOp op (y::r) p) env=eval (w8 op y r p) env:=by
 cases r with
 |nil=>exact Jt op y p env
 |cons z r=>rfl
theorem Xd {B h:Heap} {t:Tr} {v:Value} {a b:Sh} (r:Rd B h (cS o a) t v):Rd B h (cS o (a.jn b)) t v:=by
 have z:Rd B h (cS o .u) t v:=r.to fun _ _ _=>trivial
 cases a with
 |i=>cases b with
  |i=>exact r
  | _=>exact z
 | _=>exact z
theorem Zg {B h:Heap} {t:Tr} {v:Value} {a b:Sh} (r:Rd B h (cS o b) t v):Rd B h (cS o (a.jn b)) t v:=by
 have z:Rd B h (cS o .u) t v:=r.to fun _ _ _=>trivial
 cases a with
 |i=>cases b with
  |i=>exact r
  | _=>exact z
 | _=>exact z
theorem GA {a b:za} {x y:Expr} {l:List Expr} {p:Pos} (ha:SE S a x) (hb:SE S b (w8 .And y l p)):SE S (.and a b) (.BoolOp .And (x::y::l) p):=fun {f ρ o s Q} cx q=>by
 rw [wu]
 refine wpAny_bind (ha.bind cx q fun t v h1 tk r g hv q1=>wpAny_bind (wpAny_standAt (wpAny_bind (wpAny_holding (vR (s:=up s h1 tk) r hv (q1.bind fun b b' h2 tk2 r2 g2 e q2=>?_))))))
 rw [<- show b=b' from e]
 clear x ha q q1 b' e;cases b with
 |false=>exact wpAny_pure (Po.here' (s:=up s h2 tk2) q2 r2 (Xd (hv.grow g2)))
 |true=>rw [uI];exact hb (s:=up s h2 tk2) ((cx.grow r g).grow r2 g2) (Po.to q2 fun _ _ _ z=>Zg z)
theorem Hy {a b:za} {x y:Expr} {l:List Expr} {p:Pos} (ha:SE S a x) (hb:SE S b (w8 .Or y l p)):SE S (.or a b) (.BoolOp .Or (x::y::l) p):=fun {f ρ o s Q} cx q=>by
 rw [wu]
 refine wpAny_bind (ha.bind cx q fun t v h1 tk r g hv q1=>wpAny_bind (wpAny_standAt (wpAny_bind (wpAny_holding (vR (s:=up s h1 tk) r hv (q1.bind fun b b' h2 tk2 r2 g2 e q2=>?_))))))
 rw [<- show b=b' from e]
 clear x ha q q1 b' e;cases b with
 |true=>exact wpAny_pure (Po.here' (s:=up s h2 tk2) q2 r2 (Xd (hv.grow g2)))
 |false=>rw [uI];exact hb (s:=up s h2 tk2) ((cx.grow r g).grow r2 g2) (Po.to q2 fun _ _ _ z=>Zg z)
theorem u9 (op:BoolOp) (vs:List Expr) (p:Pos) (env:Env) (whole:Sem Value):isTrue (.BoolOp op vs p) env whole=allTrue op vs env:=by
 rw [arm_isTrue_BoolOp]
theorem wA {M:Model} {A:Around} {env:Env} {E:Value->Shared->Prop} {Q:Bool->Shared->Prop} (op:BoolOp) (y:Expr) (r:List Expr) (p:Pos) (h:wpAny M A (isTrue (w8 op y r p) env (eval (w8 op y r p) env)) Q E s):wpAny M A (allTrue op (y::r) env) Q E s:=by
 cases r with
 |nil =>
  cases op with
  |And=>exact wpAny_allTrue_And_cons (wpAny_mono h (fun b s' q=>by cases b;exact q;exact wpAny_allTrue_And_nil q) fun _ _ x=>x)
  |Or=>exact wpAny_allTrue_Or_cons (wpAny_mono h (fun b s' q=>by cases b;exact wpAny_allTrue_Or_nil q;exact q) fun _ _ x=>x)
 |cons z r=>rw [show w8 op y (z::r) p=.BoolOp op (y::z::r) p from rfl,u9] at h;exact h
theorem Z0 {x y:Ex Tr} {V:Heap->Bool->Bool->Prop} {Q:Bool->Shared->Prop} (p:Po S f o V Q s ((x.bind fun t=>(Ex.opt (zd t)).bind fun b=>if b then y else .ok t).bind fun t=>Ex.opt (zd t))) :
  Po S f o V Q s (x.bind fun t=>(Ex.opt (zd t)).bind fun b=>if b then y.bind fun t=>Ex.opt (zd t) else .ok false):=by
 cases x with
 |ok t =>
  show Po S f o V Q s ((Ex.opt (zd t)).bind _)
  have p:Po S f o V Q s (((Ex.opt (zd t)).bind fun b=>if b then y else .ok t).bind fun t=>Ex.opt (zd t)):=p
  cases e:zd t with
  |none=>rw [e] at p;exact p
  |some b=>rw [e] at p;cases b with
   |true=>exact p
   |false=>have p:Po S f o V Q s (Ex.opt (zd t)):=p;rw [e] at p;exact p
 | _=>exact p
theorem UC {x y:Ex Tr} {V:Heap->Bool->Bool->Prop} {Q:Bool->Shared->Prop} (p:Po S f o V Q s ((x.bind fun t=>(Ex.opt (zd t)).bind fun b=>if b then .ok t else y).bind fun t=>Ex.opt (zd t))) :
  Po S f o V Q s (x.bind fun t=>(Ex.opt (zd t)).bind fun b=>if b then .ok true else y.bind fun t=>Ex.opt (zd t)):=by
 cases x with
 |ok t =>
  show Po S f o V Q s ((Ex.opt (zd t)).bind _)
  have p:Po S f o V Q s (((Ex.opt (zd t)).bind fun b=>if b then .ok t else y).bind fun t=>Ex.opt (zd t)):=p
  cases e:zd t with
  |none=>rw [e] at p;exact p
  |some b=>rw [e] at p;cases b with
   |false=>exact p
   |true=>have p:Po S f o V Q s (Ex.opt (zd t)):=p;rw [e] at p;exact p
 | _=>exact p
theorem Gp {a b:za} {x y:Expr} {l:List Expr} {p:Pos} (ta:ST S a x) (tb:ST S b (w8 .And y l p)):ST S (.and a b) (.BoolOp .And (x::y::l) p):=fun {f ρ o s Q} cx q =>
 wpAny_isTrue_BoolOp (wpAny_allTrue_And_cons (ta.bind cx (Z0 q) fun t h1 tk r g q1=>by
  clear a x ta q;cases t with
  |false=>exact Po.here' (s:=up s h1 tk) q1 r rfl
  |true=>exact wA .And y l p (tb (s:=up s h1 tk) (cx.grow r g) q1)))
theorem Hu {a b:za} {x y:Expr} {l:List Expr} {p:Pos} (ta:ST S a x) (tb:ST S b (w8 .Or y l p)):ST S (.or a b) (.BoolOp .Or (x::y::l) p):=fun {f ρ o s Q} cx q =>
 wpAny_isTrue_BoolOp (wpAny_allTrue_Or_cons (ta.bind cx (UC q) fun t h1 tk r g q1=>by
  clear a x ta q;cases t with
  |true=>exact Po.here' (s:=up s h1 tk) q1 r rfl
  |false=>exact wA .Or y l p (tb (s:=up s h1 tk) (cx.grow r g) q1)))
end
noncomputable def Vx (g:yd) (F:Nat->Option zr) (B:Heap) (f:Nat) (a:Addr):Prop :=
 ∃ o fd body names d,B.get? a=some o/\o.data=.func fd/\B.CodeRec fd.code fd.qualname/\fd.body=.stmts body/\fd.closure=[]/\fd.globals=mainGlobals/\fd.builtins=builtinsNs/\fd.defaults=.none /\
  F f=some d/\JA g names fd.params fd.scope body d=true
noncomputable def Z5 (g:yd) (F:Nat->Option zr) (B:Heap) (f:Nat):Prop :=
 ∃ N mN,PyProof.Rows.ClsAt B (QU B) N mN/\(∃ a o,mN "__init__"=some (.ref a)/\B.get? a=some o/\o.cls=.type "function"/\Vx g F B f a) /\
  mN "__getattribute__"=none/\mN "__getattr__"=none/\mN "__setattr__"=none/\(∀ k,k<3->mN (ze k)=none) /\
  ∀ nm f',g.lookup (qk nm)=some (.meth f')->∃ a o,mN nm=some (.ref a)/\B.get? a=some o/\o.cls=.type "function"/\Vx g F B f' a
structure GOk (g:yd) (F:Nat->Option zr) (B:Heap) (mg mb:Str->Option Value):Prop where
 ng:B.Ns mainGlobals mg
 nb:B.Ns builtinsNs mb
 lim:B.NoLimit
 fn:∀ x f,g.lookup x=some (.fn f)->∃ a,mg x=some (.ref a)/\Vx g F B f a
 const:∀ x v,g.lookup x=some (.const v)->∃ u,mg x=some u/\ScR v u
 ty:∀ x T,g.lookup x=some (.ty T)->mg x=none/\mb x=some (.type T)
 bi:∀ x T,g.lookup x=some (.bi T)->mg x=none/\mb x=some (.builtin T)
 cls:∀ x c,g.lookup x=some (.cls c)->mg x=some (.ref (yV B c))/\yz B c
 tab:∀ f,g.lookup qi=some (.tab f)->mg qi=some (.ref (QU B))/\Z5 g F B f
section
variable {S:Su} {f:Fr} {ρ:VS} {o:Own} {s:Shared} {g:yd} {F:Nat->Option zr} {mg mb:Str->Option Value} {E:Value->Shared->Prop}
theorem zE {sc:Scope} {x:Str} {i:GI} (h:yj g sc x i=true):sc.names.lookup x=some .globalImplicit/\qj x=true/\g.lookup x=some i:=by
 refine zc (and_eq_true_iff.mp h) fun h1 h2=>?_
 refine zc (and_eq_true_iff.mp h1) fun h0 h1=>?_
 exact ⟨beq_iff_eq.mp h0,h1,beq_iff_eq.mp h2⟩
theorem jv {h h':Heap} {a:Addr} {m:Str->Option Value} (x:h.Ns a m) (k:∀ o,h.get? a=some o->h'.get? a=some o):h'.Ns a m:=let ⟨o,es,ep,e,r⟩:=x;⟨o,es,ep,k _ e,r⟩
theorem jM {x:Str} {i:GI} {pos:Pos} {v:Value} {Q:Value->Shared->Prop} (G:GOk g F S.B mg mb) (h:yj g S.sc x i=true) (cx:Cx S f ρ o s.heap) (hv:mg x=some v) (hQ:Q v s):wpAny S.M f.A (eval (.Name x pos) f.env) Q E s:=by
 refine yP (zE h) fun h1 h2 h3=>?_
 refine Calls.Name_function_global cx.frm.kind (by rw [cx.kind];exact h1) (Calls.loadGlobal_global (mg:=mg) ?_ hv hQ) (wb h2)
 rw [cx.frm.glob];exact jv G.ng fun ob e=>cx.rel.base _ ob e
theorem Qy {x:Str} {i:GI} {pos:Pos} {v:Value} {Q:Value->Shared->Prop} (G:GOk g F S.B mg mb) (h:yj g S.sc x i=true) (cx:Cx S f ρ o s.heap) (hv:mg x=none/\mb x=some v) (hQ:Q v s):wpAny S.M f.A (eval (.Name x pos) f.env) Q E s:=by
 refine yP (zE h) fun h1 h2 h3=>?_
 refine Calls.Name_function_global cx.frm.kind (by rw [cx.kind];exact h1) (Calls.loadGlobal_builtin (mg:=mg) (mb:=mb) ?_ hv.1 ?_ hv.2 hQ) (wb h2)
 ·rw [cx.frm.glob];exact jv G.ng fun ob e=>cx.rel.base _ ob e
 ·rw [cx.frm.bl];exact jv G.nb fun ob e=>cx.rel.base _ ob e
theorem W1 {v:Val} {x:Str} {pos:Pos} (G:GOk g F S.B mg mb) (h:yj g S.sc x (.const v)=true):SE S (.gconst v) (.Name x pos):=fun cx p=>by
 refine ob12 (G.const x v (zE h).2.2) fun u e r=>?_
 exact jM G h cx e (Po.here' p cx.rel (.sc r))
theorem KM {op:CmpOp} {t u:Tr} {v w:Value} {c c':Cl} {α β:Type} {V:Heap->α->β->Prop} {Q:β->Shared->Prop} {Q':Value->Shared->Prop} {k:Bool->Ex α} (ok:AOk S.n f.A) (r:Rd S.B s.heap c t v) (q:Rd S.B s.heap c' u w) (p:Po S f o V Q s ((Ex.opt (ym op t u)).bind k))
  (fin:∀ b,Po S f o V Q s (k b)->Q' (.bool b) s):wpAny S.M f.A (compareOp op v w) Q' E s:=by
 cases e:ym op t u with
 |none=>rw [e] at p;exact p.elim
 |some b=>rw [e] at p;exact Ap (n:=S.n) (M:=S.M) ok r q e (fin b p)
theorem Gz {op:CmpOp} {a b:za} {l r:Expr} {pos:Pos} (hm:behindInMarks op r=false) (ha:SE S a l) (hb:SE S b r):SE S (.cmp op a b) (.Compare l [op] [r] pos):=fun cx p =>
 wpAny_Compare1 (ha.bind cx p fun t v h1 tk r g hv q=>hb.bind (s:=up _ h1 tk) (cx.grow r g) q fun u w h2 tk2 r2 g2 hu q2=>KM (s:=up _ h2 tk2) cx.ok (hv.grow g2) hu q2 fun b q3=>Po.here' (s:=up _ h2 tk2) q3 r2 (.sc rfl)) hm
theorem ZN {x y:Ex Tr} {op:CmpOp} {V:Heap->Bool->Bool->Prop} {Q:Bool->Shared->Prop} (p:Po S f o V Q s ((x.bind fun t=>y.bind fun u=>(Ex.opt (ym op t u)).bind fun b=>.ok (.sc (.bool b))).bind fun t=>Ex.opt (zd t))) :
  Po S f o V Q s (x.bind fun t=>y.bind fun u=>(Ex.opt (ym op t u)).bind fun b=>.ok b):=by
 cases x with
 |ok t=>cases y with
  |ok u =>
   show Po S f o V Q s ((Ex.opt (ym op t u)).bind _)
   have p:Po S f o V Q s (((Ex.opt (ym op t u)).bind fun b=>Ex.ok (Tr.sc (.bool b))).bind fun t=>Ex.opt (zd t)):=p
   revert p;cases ym op t u with
   |none=>intro p;exact p
   |some b=>intro p;exact p
  | _=>exact p
 | _=>exact p
theorem Go {op:CmpOp} {a b:za} {l r:Expr} {pos:Pos} (hm:behindInMarks op r=false) (ha:SE S a l) (hb:SE S b r):ST S (.cmp op a b) (.Compare l [op] [r] pos):=fun cx p =>
 wpAny_isTrue_Compare1 (ha.bind cx (ZN p) fun t v h1 tk r g hv q=>hb.bind (s:=up _ h1 tk) (cx.grow r g) q fun u w h2 tk2 r2 g2 hu q2=>KM (s:=up _ h2 tk2) cx.ok (hv.grow g2) hu q2 fun b q3=>wpAny_truthy_bool (Po.here' (s:=up _ h2 tk2) q3 r2 rfl)) hm
theorem Uq {o₁ o₂:CmpOp} {a b c:za} {l r₁ r₂:Expr} {pos:Pos} (hm:lastMarks [o₁,o₂] [r₁,r₂]=false) (ha:SE S a l) (hb:SE S b r₁) (hc:SE S c r₂) :
  SE S (.cmp2 o₁ o₂ a b c) (.Compare l [o₁,o₂] [r₁,r₂] pos):=fun {f ρ o s Q} cx p=>by
 refine PyProof.Rows.Compare_chain (ha.bind cx p fun t v h1 tk r g hv q=>PyProof.Rows.chain_link (hb.bind (s:=up _ h1 tk) (cx.grow r g) q fun u w h2 tk2 r2 g2 hu q2 =>
  KM (s:=up _ h2 tk2) cx.ok (hv.grow g2) hu q2 fun t q3=>wpAny_truthy_bool ?_)) hm
 clear l r₁ hm ha hb p v hv q q2;cases t with
 |false=>exact Po.here' (s:=up _ h2 tk2) q3 r2 (.sc rfl)
 |true=>exact PyProof.Rows.chain_last (hc.bind (s:=up _ h2 tk2) ((cx.grow r g).grow r2 g2) q3 fun x x' h4 tk4 r4 g4 hx q4=>KM (s:=up _ h4 tk4) cx.ok (hu.grow g4) hx q4 fun b q5=>Po.here' (s:=up _ h4 tk4) q5 r4 (.sc rfl))
theorem qX {env:Env} {e:Expr} {r:List Expr} (h:zI e=false):starEach (e::r) env=(false,eval e env)::starEach r env:=by
 cases e <;> first | rfl | exact (Bool.false_ne_true h.symm).elim
theorem Yb:SS S .nil []:=fun pos cx p=>wpAny_items_nil (Po.here' p cx.rel ⟨rfl,rfl⟩)
theorem QV {a b:za} {e:Expr} {r:List Expr} (hs:zI e=false) (ha:SE S a e) (hb:SS S b r):SS S (.cons a b) (e::r):=fun pos cx p =>
 wpAny_items_cons (ha.bind cx p fun t v h1 tk r g hv q=>hb.bind (s:=up _ h1 tk) (cx.grow r g) q fun ts vs h2 tk2 r2 g2 hvs q2=>Po.here' (s:=up _ h2 tk2) q2 r2 ⟨t,ts,v,vs,rfl,rfl,hv.grow g2,hvs⟩) (qX hs)
noncomputable def y6 (es:List Expr):Prop:=∀ e∈es,zI e=false
theorem yM {env:Env} {es:List Expr} (h:y6 es) {pos:Pos}:(backTo pos (starEach es env)).any (·.1)=false:=by
 induction es with
 |nil=>rfl
 |cons e r ih =>
  rw [qX (h e (.head _))]
  show (false||(backTo pos (starEach r env)).any (·.1))=false
  rw [ih fun x hx=>h x (.tail _ hx)];rfl
theorem qB {M:Model} {A:Around} {env:Env} {f:Value} {es:List Expr} {pos:Pos} {Q:Args->Shared->Prop} (h:y6 es) (k:wpAny M A (spliced (backTo pos (starEach es env))) (fun vs s'=>Q ⟨vs,[]⟩ s') E s) :
  wpAny M A (evalArgs f true (backTo pos (starEach es env)) []) Q E s:=by
 cases es with
 |nil =>
  unfold evalArgs
  show wpAny M A (spliced [] >>= _) Q E s
  refine wpAny_bind (wpAny_mono k (fun vs s' hq=>?_) fun _ _ h=>h)
  refine wpAny_bind (wpAny_pure ?_)
  refine wpAny_holding ?_
  exact wpAny_bind (wpAny_pure (wpAny_bind (wpAny_pure (wpAny_pure hq))))
 |cons e r =>
  rw [qX (h e (.head _))] at k ⊢
  exact Calls.evalArgs_plain k
theorem wz {x:Str} {i:GI} {v:Value} {es:List Expr} {p1 pos:Pos} {Q:Value->Shared->Prop} (G:GOk g F S.B mg mb) (h:yj g S.sc x i=true) (hv:mg x=none/\mb x=some v) (hk:(∃ T,v=.type T)\/(∃ T,v=.builtin T)) (cx:Cx S f ρ o s.heap) (ns:y6 es)
  (k:wpAny S.M f.A (spliced (backTo pos (starEach es f.env))) (fun vs s₁=>wpAny S.M f.A (call v vs) Q E s₁) E s):wpAny S.M f.A (eval (.Call (.Name x p1) es [] pos) f.env) Q E s:=by
 refine wpAny_Call_Name_kw (Qy G h cx hv ?_)
 show wpAny S.M f.A (callWith pos v [] (backTo pos (starEach es f.env)) []) Q E s
 clear x i p1 h hv cx;rcases hk with ⟨T,rfl⟩ | ⟨T,rfl⟩
 ·exact callWith_type (yM ns) (qB ns k)
 ·exact Calls.callWith_builtin (yM ns) (qB ns k)
theorem Ta {b:BI} (G:GOk g F S.B mg mb) {x:Str} (h:g.lookup x=some (Hc b)):(mg x=none/\mb x=some (Tb b))/\((∃ T,Tb b=.type T)\/(∃ T,Tb b=.builtin T)):=by
 cases b
 ·exact ⟨G.bi x _ h,.inr ⟨_,rfl⟩⟩
 ·exact ⟨G.bi x _ h,.inr ⟨_,rfl⟩⟩
 ·exact ⟨G.bi x _ h,.inr ⟨_,rfl⟩⟩
 ·exact ⟨G.ty x _ h,.inl ⟨_,rfl⟩⟩
 ·exact ⟨G.ty x _ h,.inl ⟨_,rfl⟩⟩
theorem Hw {b:BI} {args:za} {x:Str} {es:List Expr} {p1 pos:Pos} (G:GOk g F S.B mg mb) (h:yj g S.sc x (Hc b)=true) (ns:y6 es) (ha:SS S args es):SR S (.bi b args) (.Call (.Name x p1) es [] pos):=fun cx p =>
 let ⟨h1,h2⟩:=Ta G (zE h).2.2
 wz G h h1 h2 cx ns (ha.bind cx p fun ts vs h1 tk r g hvs q=>ED (s:=up _ h1 tk) cx.ok r hvs (q.to fun _ _ _ z=>z.older g))
theorem qF {M:Model} {A:Around} {env:Env} {e:Expr} {pos:Pos} {Q:List Value->Shared->Prop} (hs:zI e=false) (k:wpAny M A (eval e env) (fun v s₁=>Q [v] s₁) E s):wpAny M A (spliced (backTo pos (starEach [e] env))) Q E s :=
 wpAny_items_cons (wpAny_mono k (fun v s₁ q=>wpAny_items_nil q) fun _ _ h=>h) (qX hs)
theorem y8 {M:Model} {A:Around} {env:Env} {e e':Expr} {pos:Pos} {Q:List Value->Shared->Prop} (hs:zI e=false) (hs':zI e'=false) (k:wpAny M A (eval e env) (fun v s₁=>wpAny M A (eval e' env) (fun v' s₂=>Q [v,v'] s₂) E s₁) E s):wpAny M A (spliced (backTo pos (starEach [e,e'] env))) Q E s :=
 wpAny_items_cons (wpAny_mono k (fun v s₁ q=>qF hs' q) fun _ _ h=>h) (qX hs)
theorem W0 {t:Ty} {a:za} {x z:Str} {y:Expr} {p1 p2 pos:Pos} (G:GOk g F S.B mg mb) (h:yj g S.sc x (.bi "isinstance")=true) (hz:yj g S.sc z (.ty (QT t))=true) (hs:zI y=false) (ha:SE S a y) :
  SE S (.isinst t a) (.Call (.Name x p1) [y,.Name z p2] [] pos):=fun cx p=>by
 refine wz G h (G.bi x _ (zE h).2.2) (.inr ⟨_,rfl⟩) cx (fun e he=>?_) (y8 hs rfl (ha.bind cx p fun u v h1 tk r g hv q=>Qy (s:=up _ h1 tk) G hz (cx.grow r g) (G.ty z _ (zE hz).2.2) (Zh (s:=up _ h1 tk) r hv q)))
 clear t a x p1 pos h hz ha cx p;rcases mem_cons.mp he with rfl | he
 ·exact hs
 ·rw [mem_singleton.mp he];rfl
theorem AL.items {h:Heap} (m:za):∀ {ts:List Tr} {vs:List Value},AL S o (jQ S.g.sh m) h ts vs->A2 (Rd S.B h (cS o (S.c m))) ts vs:=by
 induction m with
 |cons a b _ ih=>exact fun ⟨t,ts',v,vs',e1,e2,r,rs⟩=>e1▸e2▸⟨v,vs',rfl,Xd r,(ih rs).imp fun _ _=>Zg⟩
 | _=>exact fun ⟨e1,e2⟩=>e1▸e2
theorem Jg {B h:Heap} {a:Addr} {c:Sh} {k:K} {ts:List Tr} {ys:List Value} (q:o a=none) (e:∀ c,jD B h c a k ys) (r:A2 (Rd B h (cS o c)) ts ys):Rd B h (cS o (c.jn .i)) (.nd k ts) (.ref a):=by
 have z:Rd B h (cS o .u) (.nd k ts) (.ref a):=Rd.new (Q:=fun _=>True) trivial (e _) (r.imp fun _ _ z=>z.any)
 cases c with
 |i=>exact Rd.new (Q:=fun a=>o a=none) q (e _) r
 | _=>exact z
theorem Yl {a:za} {es:List Expr} {pos:Pos} (ha:SS S a es):SE S (.lst a) (.List es pos):=fun {f ρ o s Q} cx p =>
 wpAny_List (ha.bind cx p fun ts vs h1 tk r g hvs q=>by
  refine zc (Po.ite q) fun l q=>?_
  have al:=AL.items a hvs
  rw [<- al.len] at l
  refine ⟨Nat.le_trans l (by decide),?_⟩
  have gr:zA h1 (h1.push (zf vs 0)):=fun b _ e=>zb (zt _ _ b) e
  exact Po.push (s:=up s h1 tk) q r (zt _ _) (Jg (r.free (zH _)) (fun _=>⟨l,0,Heap.get?_push_size _ rfl⟩) (al.imp fun _ _ z=>z.grow gr)))
theorem Yd {a:za} {es:List Expr} {pos:Pos} (c:S.c a=.i) (ha:SS S a es):SR S (.lst a) (.List es pos):=fun {f ρ o s Q} cx p =>
 wpAny_List (ha.bind cx p fun ts vs h1 tk r g hvs q=>by
  have al:=AL.items a hvs
  rw [c] at al
  exact ⟨Nat.le_trans (al.len▸Wn q) (by decide),Po.mkL (s:=up s h1 tk) (n:=0) (q.to fun _ _ _ z=>z.older g) r (zt _ _) (Heap.get?_push_size _ rfl) al⟩)
theorem Gw {a:za} {es:List Expr} {k:Nat} {pos:Pos} (ha:SS S a es):SE S (.tup a) (.Tuple es k pos):=fun {f ρ o s Q} cx p =>
 wpAny_Tuple (ha.bind cx p fun ts vs h1 tk r g hvs q=>by
  refine zc (Po.ite q) fun l q=>?_
  have al:=AL.items a hvs
  rw [<- al.len] at l
  refine ⟨Nat.le_trans l (by decide),?_⟩
  have gr:zA h1 (h1.push (qq vs 0)):=fun b _ e=>zb (zt _ _ b) e
  exact Po.push (s:=up s h1 tk) q r (zt _ _) (Jg (r.free (zH _)) (fun _=>⟨l,0,Heap.get?_push_size _ rfl⟩) (al.imp fun _ _ z=>z.grow gr)))
theorem G1 {e:za} {k:Nat} (h:isC e k=true):e=.const (.int k):=by
 unfold isC at h
 cases q:QH e with
 |none=>rw [q] at h;exact no3 h
 |some v =>
  rw [q] at h
  rw [uL q]
  cases v with
  |int j=>exact congrArg (fun j=>za.const (.int j)) (of_decide_eq_true h)
  | _=>cases h
theorem Po.bindE {α γ β δ:Type} {W:Heap->γ->δ->Prop} {V:Heap->α->β->Prop} {Q:β->Shared->Prop} {Q':δ->Shared->Prop} {r:Ex γ} {g:γ->Ex α} (p:Po S f o V Q s (r.bind g))
  (k:∀ v v' h1 tk,r=.ok v->HB S.B o h1->zA s.heap h1->W h1 v v'->Po S f o V Q (up s h1 tk) (g v)->Q' v' (up s h1 tk)):Po S f o W Q' s r:=by
 cases r with
 |ok v=>exact fun v' h1 tk r st hv=>k v v' h1 tk rfl r st hv (Po.step (x:=g v) p st)
 |exc c=>exact p
 |stuck=>exact p
theorem Wi {r:Expr} (hs:wd r=false) (v w:Value):subscripted r false v w=operate [v,w] (getItem v w):=by
 cases r <;> first | rfl | exact (Bool.false_ne_true hs.symm).elim
theorem Gx {a b:za} {l r:Expr} {pos:Pos} (hs:wd r=false) (ha:SE S a l) (hb:SE S b r):SE S (.sub a b) (.Subscript l r pos):=fun {f ρ o s Q} cx p =>
 PyProof.Rows.Subscript_ (ha.bind cx p fun t v h1 tk r1 g hv q=>hb (s:=up _ h1 tk) (cx.grow r1 g) (q.bindE fun u w h2 tk2 e r2 g2 hu q2 =>
  Ht (s:=up _ h2 tk2) (e:=b) r2 (hv.grow g2) hu (fun k hc=>by rw [G1 hc] at e;clear l pos ha hb cx p v r1 g hv q w r2 g2 hu hc;cases e;rfl) q2 (Wi hs)))
theorem ZU {x:Ex Tr}:((x.bind fun x=>(Ex.ok []).bind fun xs=>Ex.ok (x::xs)).bind fun ts=>Ex.opt (W5 ts))=x.bind fun t=>.ok t:=by cases x <;> rfl
noncomputable def SO (S:Su) (m:za) (x:Option Expr):Prop :=
 ∀ {f:Fr} {ρ:VS} {o:Own} {s:Shared} {Q:Value->Shared->Prop},Cx S f ρ o s.heap->Po S f o (RV S any) Q s (((zK S.G S.g.sh S.C m).Es ρ).bind fun ts=>Ex.opt (W5 ts))->wpAny S.M f.A (evalPart x f.env) Q f.X.E s
theorem Gr:SO S .nil none:=fun cx p=>wpAny_pure (Po.here' p cx.rel (.sc rfl))
theorem Um {a:za} {e:Expr} (ha:SE S a e):SO S (.cons a .nil) (some e):=fun {f ρ o s Q} cx p =>
 ha.bind cx (show Po S f o (RV S any) Q s ((S.E a ρ).bind fun t=>.ok t) from ZU▸p) fun t v h1 tk r g hv q=>Po.here' (s:=up s h1 tk) q r hv.any
theorem Yc {a lo hi:za} {l:Expr} {x y:Option Expr} {p1 pos:Pos} (ha:SE S a l) (hlo:SO S lo x) (hhi:SO S hi y):SR S (.slice a lo hi) (.Subscript l (.Slice x y none p1) pos):=fun {f ρ o s Q} cx p =>
 PyProof.Rows.Subscript_ (ha.bind cx p fun t v h1 tk r1 g1 hv q1=>wpAny_Slice (hlo (s:=up s h1 tk) (cx.grow r1 g1) (q1.bind fun u u' h2 tk2 r2 g2 hu q2=>hhi (s:=up s h2 tk2) ((cx.grow r1 g1).grow r2 g2) (q2.bind fun z z' h3 tk3 r3 g3 hz q3 =>
  wpAny_pure (Uo (s:=up s h3 tk3) r3 ((hv.grow g2).grow g3) (hu.grow g3) hz (q3.to fun _ _ _ z=>z.older fun b ob e=>g3 b ob (g2 b ob (g1 b ob e))) fun i=>rfl)))))
theorem KU:∀ k,k<3->typeLookup (.type "object") (ze k)=pure none:=fun k hk=>by
 have:k=0\/k=1\/k=2:=by exact We hk
 clear hk;rcases this with rfl | rfl | rfl
 ·rw [typeLookup_type,builtinLookup_eq_fast];kernel_rfl
 ·rw [typeLookup_type,builtinLookup_eq_fast];kernel_rfl
 ·rw [typeLookup_type,builtinLookup_eq_fast];kernel_rfl
theorem ui (nm:Str):∃ y,typeLookup (.type "object") nm=pure y:=by
 rw [typeLookup_type]
 have:∃ y,builtinLookup "object" nm=some y:=by
  unfold builtinLookup
  exact ⟨_,rfl⟩
 refine ob11 this fun y e=>?_;clear this
 rw [e];exact ⟨y,rfl⟩
theorem JD {k j:Nat} (hk:k<3) (hj:j<3) (e:ze j=ze k):j=k:=by
 have h1:k=0\/k=1\/k=2:=by exact We hk
 have h2:j=0\/j=1\/j=2:=by exact We hj
 clear hk hj;rcases h1 with rfl | rfl | rfl <;> rcases h2 with rfl | rfl | rfl <;> first | rfl | (exact absurd e (by decide +kernel))
theorem je {g:yd} (h:kJ (g.lookup qi)=true):∃ f,g.lookup qi=some (.tab f):=by
 unfold kJ at h
 split at h
 ·rename_i f e;exact ⟨f,e⟩
 ·exact no3 h
theorem Zn {B h:Heap} {c:Cl} {t:Tr} {v:Value} (r:Rd B h c t v):handedOut v=pure v:=by
 cases r with
 |sc e=>rename_i x;clear h c;cases x with
  |none=>rw [show v=_ from e];rfl
  |bool b=>rw [show v=_ from e];rfl
  |int i=>refine ob11 e fun t ez4x1=>?_;clear e;subst ez4x1;rfl
  |str x=>refine zc e fun _ wz3=>?_;clear e;refine ob11 wz3 fun t ez5x1=>?_;clear wz3;subst ez5x1;rfl
 |nd=>rfl
theorem wB.inst {B h:Heap} {a dx:Addr} {ys:List Value} (r:wB B h a dx ys):∃ mA,h.Inst a (QU B) mA/\(∀ (k:Nat) (v:Value),k<3->ys[k]?=some v->mA (ze k)=some v)/\(∀ y,mA y≠none->y ∈ [ze 0,ze 1,ze 2]) :=
 let ⟨ob,mA,i1,i3,i4,i5,i6,i7,i8⟩:=r
 ⟨mA,⟨ob,i1,i3,i5,.inr ⟨dx,i4,i6,i7⟩⟩,i8⟩
theorem Aj {c:Sh} {k:Nat} {p:List Nat} {a:Addr} (hk:k<3) (q:cS o c (k::p) a):cS o (c.fl k) p a:=by
 cases c with
 |i=>exact q
 |b=>exact q
 |u=>trivial
 |L s=>trivial
 |T =>
  show cS o (cond (Nat.beq k 2) (.L .i) .i) p a
  have q:(match (Nat.beq k 2||Nat.beq k 3)&&p.isEmpty with | true=>True | false=>o a=none):=q
  have k3:Nat.beq k 3=false:=eq_false_iff.mpr fun z=>lt_irrefl _ (eq_of_beq_eq_true z▸hk)
  rw [k3,Bool.or_false] at q
  clear hk k3;cases e:Nat.beq k 2 with
  |true=>cases p with
   |nil=>trivial
   |cons=>rw [e] at q;exact q
  |false=>rw [e] at q;exact q
 |D=>trivial
theorem QQ {k:Nat} {a dx:Addr} {ys:List Value} {y:Value} {expr:Bool} {Q:Value->Shared->Prop} {f0:Nat} (T:Z5 g F S.B f0) (hk:k<3) (hb:HB S.B o s.heap) (I:wB S.B s.heap a dx ys) (ey:ys[k]?=some y) (hy:handedOut y=pure y) (fin:∀ tk,Q y (up s s.heap tk)):wpAny S.M f.A (getAttr (.ref a) (ze k) expr) Q E s:=by
 refine ob27 T fun N mN TC _ t1 t2 t3 t4 _=>?_;clear T
 refine ob13 I.inst fun mA I i7 _=>?_
 refine ob11 (vI (TC.keeps fun b o e=>hb.base b o e)) fun xr hC=>?_
 obtain ⟨hh,gg,d,t,os⟩:=s
 exact load_attr hC (TC.keeps fun b o e=>hb.base b o e).ns t1 (t4 k hk) (KU k hk) I (i7 k y hk ey) hy (fin _)
theorem Hd {k:Nat} {c:Sh} {t:Tr} {v:Value} {expr:Bool} {Q:Value->Shared->Prop} {f0:Nat} (T:Z5 g F S.B f0) (hk:k<3) (hb:HB S.B o s.heap) (r:Rd S.B s.heap (cS o c) t v) (p:Po S f o (RV S (cS o (c.fl k))) Q s (Ex.opt (JS t k))):wpAny S.M f.A (getAttr v (ze k) expr) Q E s:=by
 refine ob12 p.opt fun x ex p1=>?_
 clear p;cases t with
 |sc=>exact no1 ex
 |nd l ts=>cases l with
  |inst =>
   refine ob25 r.node fun a ys ez8x2 _ wz8x4 el es=>?_;clear r;subst ez8x2;refine ob12 wz8x4 fun dx _ I=>?_;clear wz8x4
   have ex:ts[k]?=some x:=ex
   obtain ⟨y,ey⟩:∃ y,ys[k]?=some y:=⟨_,getElem?_eq_getElem (by rw [el];exact (List.getElem?_eq_some_iff.mp ex).1)⟩
   have rx:=es k x y ex ey
   exact QQ (f:=f) T hk hb I ey (Zn rx) fun tk=>Po.here (V:=RV S (cS o (c.fl k))) p1 hb (rx.to fun _ _=>Aj hk)
  | _=>clear c hk hb r p1;exact no1 ex
theorem Us {m:za} {k:Nat} {x:Str} {px pos:Pos} (G:GOk g F S.B mg mb) (ht:kJ (g.lookup qi)=true) (hk:k<3) (ho:SE S m (.Name x px)):SE S (.attr m k) (.Attribute (.Name x px) (ze k) pos):=fun {f ρ o s Q} cx p=>by
 refine ob11 (je ht) fun f0 hf=>?_
 rw [arm_eval_Attribute]
 refine wpAny_bind ?_
 show wpAny S.M f.A (eval (.Name x px) f.env) _ f.X.E s
 refine ho.bind cx p fun t v h1 tk r g hv q=>wpAny_bind (wpAny_standAt (wpAny_bind (wpAny_holding (wpAny_mono (Hd (s:=up s h1 tk) (G.tab f0 hf).2 hk r hv q) (fun u s' hq=>?_) fun _ _ h=>h))))
 show wpAny S.M f.A ((pure ():Sem Unit) >>= fun _=>pure u) Q f.X.E s'
 exact wpAny_bind (wpAny_pure (wpAny_pure hq))
end
end Mine
namespace Mine
open PySem PySem.SeqAt
structure XI (M:Model) (n:Nat) (It:Nat->Value->Prop) (Ad:Addr->Prop) (Src:Heap->Prop) (I:Addr) (At:Nat->Heap->Prop):Prop where
 frame:∀ i h h',At i h->(∀ ob,look h I=some ob->look h' I=some ob)->At i h'
 alive:∀ i h,At i h->∃ ob,h.get? I=some ob
 kind:∀ i h,At i h->∃ ob vs T,h.get? I=some ob/\ob.data=.fields vs/\ob.cls=.type T
 src:∀ h h',Src h->(∀ b ob,Ad b->look h b=some ob->look h' b=some ob)->Src h'
 live:∀ h b,Src h->Ad b->∃ ob,h.get? b=some ob
 again:∀ i (A:Around) (s:Shared) (Q E:Value->Shared->Prop),At i s.heap->Q (.ref I) s->wpAny M A (pyIter (.ref I)) Q E s
 item:∀ i (A:Around) (s:Shared) (Q:Option Value->Shared->Prop) (E:Value->Shared->Prop),i<n->At i s.heap->Src s.heap ->
  (∀ v h' tk,It i v->At (i+1) h'->(∀ b ob,b≠I->s.heap.get? b=some ob->h'.get? b=some ob)->Q (some v) (up s h' tk))->wpAny M A (pyNext (.ref I)) Q E s
 done:∀ (A:Around) (s:Shared) (Q:Option Value->Shared->Prop) (E:Value->Shared->Prop),A.handled=none->At n s.heap->Src s.heap ->
  (∀ h' tk,(∀ b ob,b≠I->s.heap.get? b=some ob->h'.get? b=some ob)->Q none (up s h' tk))->wpAny M A (pyNext (.ref I)) Q E s
theorem zg {a:Addr} {h h':Heap} (x:Heap.SameBut a h h'):∀ b ob,b≠a->h.get? b=some ob->h'.get? b=some ob:=fun b _ nb e=>(x.2 b nb).trans e
theorem kH {h h':Heap} {a:Addr} {ob:Obj} {vs:Array Value} (k:∀ ob,look h a=some ob->look h' a=some ob) (e:h.get? a=some ob) (d:ob.data=.fields vs):h'.get? a=some ob :=
 have nd:kT ob:=fun es ep z=>by rw [d] at z;clear d;cases z
 zx (k _ (zV e nd)) nd
section
variable {prog:Program} {w:World}
theorem Qu {a I:Addr} {ys:List Value} {m:Nat}:XI (model prog w) ys.length (fun j v=>ys[j]?=some v) (fun b=>b=a) (fun h=>h.get? a=some (zf ys m)) I (fun i h=>h.IsListIter I a i) where
 frame:=fun i h h' x k=>let ⟨ob,e,c,d⟩:=x;⟨ob,kH k e d,c,d⟩
 alive:=fun i h x=>let ⟨ob,e,_⟩:=x;⟨ob,e⟩
 kind:=fun i h x=>let ⟨ob,e,c,d⟩:=x;⟨ob,_,_,e,d,c⟩
 src:=fun h h' e k=>zx (k a _ rfl (zV e zj)) zj
 live:=fun h b e z=>⟨_,z▸e⟩
 again:=fun i A s Q E x q=>wpAny_pyIter_listiter x q
 item:=fun i A s Q E hi hat g hQ=>wpAny_pyNext_list_item hat (zn g) ((getElem?_toArray).trans (getElem?_eq_getElem hi)) fun h' x1 x2=>hQ _ h' s.toks (getElem?_eq_getElem hi) x1 (zg x2)
 done:=fun A s Q E hh hat g hQ=>wpAny_pyNext_list_end hh hat (zn g) ((getElem?_toArray).trans (getElem?_eq_none (Nat.le_refl _))) fun h' x1=>hQ h' s.toks x1
theorem ud (a:Int):∀ (n i:Nat) (t:Tr),(yh a n)[i]?=some t->t=.sc (.int (a+i))
 | 0,i,t,h=>nomatch h
 |n+1,0,t,h=>by obtain rfl:=sj h;exact congrArg (fun x=>Tr.sc (.int x)) (add_zero a).symm
 |n+1,i+1,t,h=>by
  rw [ud (a+1) n i t h]
  exact congrArg (fun x=>Tr.sc (.int x)) (by (first | exact AW | omega))
theorem jz (a:Int):∀ n,(yh a n).length=n
 | 0=>rfl
 |n+1=>congrArg (·+1) (jz (a+1) n)
theorem Vd {a:Int} {n:Nat} {I:Addr}:XI (model prog w) n (fun j v=>∃ t,v=.int (a+j) t) (fun _=>False) (fun _=>True) I (fun i h=>IsRangeIter h I (a+(i:Nat)) ((n:Int)-(i:Nat)) 1) where
 frame:=fun i h h' x k=>kH k x rfl
 alive:=fun i h x=>⟨_,x⟩
 kind:=fun i h x=>⟨_,_,_,x,rfl,rfl⟩
 src:=fun _ _ _ _=>trivial
 live:=fun _ _ _ z=>z.elim
 again:=fun i A s Q E x q=>wpAny_pyIter_rangeiter x q
 item:=fun i A s Q E hi hat _ hQ=>by
  refine wpAny_pyNext_range_item hat (by exact AV hi) fun h' x1 x2=>hQ _ h' _ ⟨_,rfl⟩ ?_ (zg x2)
  have e1:a+((i+1:Nat):Int)=a+i+1:=by (first | exact AU | omega)
  have e2:(n:Int)-((i+1:Nat):Int)=n-i-1:=by (first | exact AT | omega)
  rw [e1,e2];exact x1
 done:=fun A s Q E hh hat _ hQ=>wpAny_pyNext_range_end hh hat (by (first | exact AS | omega)) fun h' x1=>hQ h' s.toks x1
end
section
variable {S:Su} {f:Fr} {ρ:VS} {o:Own} {s:Shared} {g:yd} {F:Nat->Option zr} {mg mb:Str->Option Value} {E:Value->Shared->Prop}
noncomputable def PoI (S:Su) (f:Fr) (o:Own) (c0 c1:Sh) (Q:Value->Shared->Prop) (s:Shared):Ex (List Tr)->Prop
 | .ok ts=>∀ It Ad Src I At h0 h' tk,HB S.B o h'->zA s.heap h0->zA h0 h'->h0.get? I=none->XI S.M ts.length It Ad Src I At->At 0 h'->Src h'->(∀ b,Ad b->b≠I/\cS o c0 [] b)->(∀ j t v,ts[j]?=some t->It j v->Rd S.B h0 (cS o c1) t v)->ts.length<=lim->Q (.ref I) (up s h' tk)
 | .exc c=>PX S.B f.X (fun o' _=>o'=o) KW o s c
 | .stuck=>False
noncomputable def SI (S:Su) (m:za) (e:Expr):Prop :=
 (∀ env x,foldedSetIterable e env x=pure x) /\
 ∀ {f:Fr} {ρ:VS} {o:Own} {s:Shared} {Q:Value->Shared->Prop},Cx S f ρ o s.heap->PoI S f o (Uk S.g.sh m) (S.c m) Q s ((zK S.G S.g.sh S.C m).I ρ) ->
  wpAny S.M f.A (eval e f.env) (fun x s₁=>wpAny S.M f.A (pyIter x) Q f.X.E s₁) f.X.E s
theorem PoI.step {c0 c1:Sh} {Q:Value->Shared->Prop} {x:Ex (List Tr)} {h':Heap} {tk:Nat} (p:PoI S f o c0 c1 Q s x) (st:zA s.heap h'):PoI S f o c0 c1 Q (up s h' tk) x:=by
 cases x with
 |ok ts=>exact fun It Ad Src I At h0 h'' tk' r st'=>p It Ad Src I At h0 h'' tk' r fun b ob z=>st' b ob (st b ob z)
 |exc c=>exact PX.step p (zA.step st)
 |stuck=>exact p
theorem PoI.bind {γ δ:Type} {W:Heap->γ->δ->Prop} {c0 c1:Sh} {Q:Value->Shared->Prop} {Q':δ->Shared->Prop} {r:Ex γ} {k:γ->Ex (List Tr)} (p:PoI S f o c0 c1 Q s (r.bind k))
  (n:∀ v v' h1 tk,HB S.B o h1->zA s.heap h1->W h1 v v'->PoI S f o c0 c1 Q (up s h1 tk) (k v)->Q' v' (up s h1 tk)):Po S f o W Q' s r:=by
 cases r with
 |ok v=>exact fun v' h1 tk r st hv=>n v v' h1 tk r st hv (PoI.step (x:=k v) p st)
 |exc c=>exact p
 |stuck=>exact p
theorem PoI.int {B h:Heap} {c:Cl} {t:Tr} {v:Value} {c0 c1:Sh} {Q:Value->Shared->Prop} {k:Int->Ex (List Tr)} (r:Rd B h c t v) (p:PoI S f o c0 c1 Q s (km t .stuck k)):∃ i tk,v=.int i tk/\PoI S f o c0 c1 Q s (k i):=by
 cases t with
 |nd=>exact p.elim
 |sc x=>cases x with
  |int i=>refine ob11 r.isSc fun tk ez0x1=>?_;clear h c r;subst ez0x1;exact ⟨i,tk,rfl,p⟩
  | _=>exact p.elim
theorem PoI.ite {c0 c1:Sh} {Q:Value->Shared->Prop} {c:Prop} [Decidable c] {x:Ex (List Tr)} (p:PoI S f o c0 c1 Q s (if c then x else .stuck)):c/\PoI S f o c0 c1 Q s x:=by
 by_cases q:c
 ·rw [if_pos q] at p;exact ⟨q,p⟩
 ·rw [if_neg q] at p;exact p.elim
theorem Q1 (a b:Int):Builtin.Range.rangeSize a b 1=((b-a).toNat:Int):=by
 unfold Builtin.Range.rangeSize
 rw [if_pos (by (first | exact D5 | omega))]
 split
 ·rw [Int.ediv_one];(exact D2 ‹_›)
 ·(exact D0 ‹_›)
theorem ua {a b:Int} {r:Addr} {t u v:Tok} {c0:Sh} {Q:Value->Shared->Prop} (hb:HB S.B o s.heap) (hr:IsRange s.heap r a b 1 t u v) (hok:jW a b=true)
  (p:PoI S f o c0 .i Q s (.ok (yh a (b-a).toNat))):wpAny S.M f.A (pyIter (.ref r)) Q E s:=by
 have hlim:lim=1048576:=rfl
 unfold jW at hok
 simp only [and_eq_true,decide_eq_true_eq] at hok
 refine wpAny_pyIter_range hr ?_ ?_
 ·exact small_one (by omega) (by omega) (by omega) (by omega)
 ·refine p (fun j v=>∃ t,v=.int (a+j) t) (fun _=>False) (fun _=>True) _ (fun i h=>IsRangeIter h s.heap.objs.size (a+(i:Nat)) (((b-a).toNat:Int)-(i:Nat)) 1) s.heap _ _ (hb.grow (zt _ _)) (fun _ _ e=>e) (fun b _ e=>zb (zt _ _ b) e) (zH _) (by rw [jz];exact Vd) ?_ trivial (fun _ z=>False.elim z) (fun j t v e z=>?_) (by rw [jz];(exact DZ hok))
  ·show (s.heap.push _).get? s.heap.objs.size=_
   rw [Heap.get?_push_size _ rfl,Q1]
   simp
  ·refine ob11 z fun tk ez1x1=>?_;clear z;clear r u c0 hb hr hok p hlim;subst ez1x1
   rw [ud a _ j t e];exact .sc ⟨tk,rfl⟩
theorem jc {e:Expr} (h:zI e=false):y6 [e]:=fun x hx=>by rw [mem_singleton.mp hx];exact h
theorem uk {e e':Expr} (h:zI e=false) (h':zI e'=false):y6 [e,e']:=fun x hx=>by
 rcases mem_cons.mp hx with rfl | hx
 ·exact h
 ·rw [mem_singleton.mp hx];exact h'
theorem Yi {a:za} {x:Str} {y:Expr} {p1 pos:Pos} (G:GOk g F S.B mg mb) (h:yj g S.sc x (.ty "range")=true) (hs:zI y=false) (ha:SE S a y):SI S (.irange a) (.Call (.Name x p1) [y] [] pos) :=
 ⟨fun _ _=>rfl,fun {f ρ o s Q} cx p=>wz G h (G.ty x _ (zE h).2.2) (.inl ⟨_,rfl⟩) cx (jc hs) (qF hs (ha cx (PoI.bind p fun t v h1 tk r g hv q=>by
  refine ob22 (PoI.int hv (k:=fun m=>if jW 0 m then .ok (yh 0 (m-0).toNat) else .stuck) q) fun i tk ez2x2 q=>?_;clear x y p1 pos h hs ha ρ cx p g hv;subst ez2x2
  refine zc q.ite fun hok q=>?_
  exact call_range_1 (ua (f:=f) (s:=up s (h1.push _) _) (r.grow (zt _ _)) (Heap.get?_push_size _ rfl) hok (PoI.step (s:=up s h1 _) q fun b _ e=>zb (zt _ _ b) e)))))⟩
theorem WY {a b:za} {x:Str} {y z:Expr} {p1 pos:Pos} (G:GOk g F S.B mg mb) (h:yj g S.sc x (.ty "range")=true) (hs:zI y=false) (hs':zI z=false) (ha:SE S a y) (hb:SE S b z):SI S (.irange2 a b) (.Call (.Name x p1) [y,z] [] pos) :=
 ⟨fun _ _=>rfl,fun {f ρ o s Q} cx p=>wz G h (G.ty x _ (zE h).2.2) (.inl ⟨_,rfl⟩) cx (uk hs hs') (y8 hs hs' (ha cx (PoI.bind p fun t v h1 tk r g hv q=>hb (s:=up s h1 tk) (cx.grow r g) (PoI.bind q fun u w h2 tk2 r2 g2 hu q2=>by
  refine ob22 (PoI.int hv q2) fun i t1 ez4x2 q2=>?_;clear x y z p1 pos h hs hs' ha hb ρ cx p r g hv q g2;subst ez4x2
  refine ob22 (PoI.int hu q2) fun j t2 ez5x2 q2=>?_;clear hu;subst ez5x2
  refine zc q2.ite fun hok q2=>?_
  exact call_range_2 (ua (f:=f) (s:=up s (h2.push _) _) (r2.grow (zt _ _)) (Heap.get?_push_size _ rfl) hok (PoI.step (s:=up s h2 _) q2 fun b _ e=>zb (zt _ _ b) e))))))⟩
theorem Gv {a:za} {e:Expr} (hset:∀ env x,foldedSetIterable e env x=pure x) (ha:SE S a e):SI S (.iobj a) e :=
 ⟨hset,fun {f ρ o s Q} cx p=>ha cx (PoI.bind p fun t v h1 tk r g hv q=>by
  clear hset ha ρ cx p g;cases t with
  |sc=>exact q.elim
  |nd k ts =>
   refine ob25 hv.node fun ad ys ez7x2 c0 ob el es=>?_;clear hv;subst ez7x2
   have z:k.seq=some true->PoI S f o (S.c a) ((S.c a).el .nil) Q (up s h1 tk) (.ok ts)->wpAny S.M f.A (pyIter (.ref ad)) Q f.X.E (up s h1 tk):=fun hk q=>by
    refine zc (ob.lists hk) fun l wz8=>?_;obtain ⟨m,gg⟩:=wz8
    have gr:zA h1 (h1.push { cls:=.type "list_iterator",data:=.fields #[.ref ad,.int 0 0] }):=fun b _ e=>zb (zt _ _ b) e
    refine wpAny_pyIter_list (s:=up s h1 tk) (zn gg) (q (fun j v=>ys[j]?=some v) (fun b=>b=ad) (fun h=>h.get? ad=some (zf ys m)) _ (fun j h=>h.IsListIter h1.objs.size ad j) h1 _ _ (r.grow (zt _ _)) (fun _ _ e=>e) gr (zH _) (by rw [<- el];exact Qu) ⟨_,Heap.get?_push_size _ rfl,rfl,rfl⟩ (zt _ _ _ _ gg) (fun b z=>⟨fun y=>ne_of_lt (Heap.lt_size gg) ((show b=ad from z).symm.trans y),z▸c0⟩) (fun j t v e1 e2=>?_) (el▸l))
    exact (es j t v e1 e2).to fun _ _=>Kx (e:=.nil) fun k hc=>no3 hc
   clear e r ys c0 ob el es;cases k with
   |lst=>exact z rfl q
   |ro=>exact z rfl q
   | _=>exact q.elim)⟩
end
end Mine
namespace Mine
open PySem
noncomputable def uP (env:Env):List (Str × NameKind)->List (Str × Addr)->List (Str × Addr)
 | [],acc=>acc
 | (n,k)::r,acc=>uP env r (if k==.free then (match env.cells.lookup n with | some c=>(n,c)::acc | none=>acc) else acc)
theorem jC {sc:Scope} {env:Env} (h:∀ p∈sc.names,p.2=.free->∃ c,env.cells.lookup p.1=some c):closureFor sc env=pure (uP env sc.names []):=by
 have key:∀ (l:List (Str × NameKind)) (acc:List (Str × Addr)),(∀ p∈l,p.2=.free->∃ c,env.cells.lookup p.1=some c) ->
   (forIn l acc fun (x:Str × NameKind) (cs:List (Str × Addr))=>(match x with
    | (name,kind)=>if (kind==.free)=true then do let c <- cellOf env name;pure (ForInStep.yield ((name,c)::cs)) else pure (ForInStep.yield cs):Sem (ForInStep (List (Str × Addr)))))=pure (uP env l acc):=fun l=>by
  induction l with
  |nil=>intro acc _;rfl
  |cons p r ih =>
   intro acc hl
   obtain ⟨nm,k⟩:=p
   rw [List.forIn_cons]
   by_cases hk:(k==.free)=true
   ·refine ob11 (hl (nm,k) (.head _) (by simpa using hk)) fun c hc=>?_
    simp only at hc
    simp only [hk,if_true,uP,hc]
    have:cellOf env nm=pure c:=by unfold cellOf;rw [hc]
    rw [this]
    exact ih ((nm,c)::acc) fun p hp=>hl p (.tail _ hp)
   ·simp only [hk,if_false,uP]
    exact ih acc fun p hp=>hl p (.tail _ hp)
 have:=key sc.names [] h
 have e:=congrArg (fun m:Sem (List (Str × Addr))=>m >>= fun cs=>pure cs) this
 exact Eq.trans (by rfl) e
theorem qe {env:Env}:∀ (l:List (Str × NameKind)) (acc:List (Str × Addr)) (x:Str) (c:Addr),(uP env l acc).lookup x=some c->(∃ k,(x,k)∈l/\k=.free/\env.cells.lookup x=some c)\/acc.lookup x=some c
 | [],acc,x,c,h=>.inr h
 | (nm,k)::r,acc,x,c,h=>by
  rw [uP] at h
  rcases qe r _ x c h with ⟨k',m,e,q⟩ | q
  ·exact .inl ⟨k',.tail _ m,e,q⟩
  ·split at q
   ·rename_i hk
    split at q
    ·rename_i c' hc
     rw [lookup_cons] at q
     split at q
     ·rename_i hx;obtain rfl:=sj q;rw [beq_iff_eq] at hx;subst hx;exact .inl ⟨k,.head _,by simpa using hk,hc⟩
     ·exact .inr q
    ·exact .inr q
   ·exact .inr q
theorem wY {env:Env} {x:Str}:∀ (l:List (Str × NameKind)) (acc:List (Str × Addr)),((x,.free)∈l/\(∃ c,env.cells.lookup x=some c))\/(∃ c,acc.lookup x=some c)->∃ c,(uP env l acc).lookup x=some c
 | [],acc,h=>h.elim (fun q=>nomatch q.1) id
 | (nm,k)::r,acc,h=>by
  rw [uP]
  refine wY r _ ?_
  by_cases hx:(x==nm)=true
  ·rw [beq_iff_eq] at hx;subst hx
   rcases h with ⟨m,c,hc⟩ | ⟨c,hc⟩
   ·by_cases hk:(k==.free)=true
    ·exact .inr ⟨c,by simp [hk,hc,lookup_cons]⟩
    ·rcases mem_cons.mp m with q | q
     ·cases q;exact absurd rfl hk
     ·exact .inl ⟨q,c,hc⟩
   ·refine .inr ?_
    split
    ·split
     ·rename_i c' _;exact ⟨c',by simp⟩
     ·exact ⟨c,hc⟩
    ·exact ⟨c,hc⟩
  ·have hx':(x==nm)=false:=by simpa using hx
   rcases h with ⟨m,c,hc⟩ | ⟨c,hc⟩
   ·rcases mem_cons.mp m with q | q
    ·clear m;obtain ⟨rfl,rfl⟩:=pj q;simp at hx
    ·exact .inl ⟨q,c,hc⟩
   ·refine .inr ⟨c,?_⟩
    split
    ·split
     ·rw [lookup_cons,hx'];exact hc
     ·exact hc
    ·exact hc
theorem kG (inner outer:Scope) (x:Str):(zY inner outer).names.lookup x=(inner.names.lookup x).map fun k=>if (k==.free&&outer.kind==.function&&outer.names.lookup x==some .cell) then .cell else k:=by
 show (inner.names.map _).lookup x=_
 generalize inner.names=l
 clear inner;induction l with
 |nil=>rfl
 |cons p r ih =>
  obtain ⟨n,k⟩:=p
  rw [map_cons]
  dsimp only
  by_cases hx:(x==n)=true
  ·rw [beq_iff_eq] at hx;subst hx
   by_cases hc:(k==NameKind.free&&outer.kind==ScopeKind.function&&List.lookup x outer.names==some NameKind.cell)=true
   ·rw [if_pos hc,lookup_cons,lookup_cons,beq_self_eq_true,map_some,if_pos hc]
   ·rw [if_neg hc,lookup_cons,lookup_cons,beq_self_eq_true,map_some,if_neg hc]
  ·have hx':(x==n)=false:=by simpa using hx
   by_cases hc:(k==NameKind.free&&outer.kind==ScopeKind.function&&List.lookup n outer.names==some NameKind.cell)=true
   ·rw [if_pos hc,lookup_cons,lookup_cons,hx'];exact ih
   ·rw [if_neg hc,lookup_cons,lookup_cons,hx'];exact ih
theorem zh {α:Type} {x:Str} {v:α}:∀ {l:List (Str × α)},l.lookup x=some v->(x,v)∈l
 | [],h=>by exact no1 h
 | (n,k)::r,h=>by
  rw [lookup_cons] at h
  split at h
  ·rename_i hx;rw [beq_iff_eq] at hx;subst hx;obtain rfl:=sj h;exact .head _
  ·exact .tail _ (zh h)
noncomputable def zw (env:Env) (inner:Scope) (C:Addr):Env :=
 { scope:=relabel inner env,locals:=C,globals:=env.globals,cells:=uP env inner.names [],qual:=env.qual,func:=none,code:=env.code,frame:=env.frame,builtins:=env.builtins }
section
variable {S:Su} {f:Fr} {ρ:VS} {o:Own} {h:Heap} {inner sc:Scope} {sm:List (Str × Nat)} {env:Env} {x:Str} {i:Nat} {D:Addr}
structure vL (inner sc:Scope):Prop where
 kind:inner.kind=.function
 nocell:∀ p∈inner.names,p.2≠.cell
 locs:∀ p∈inner.names,p.2=.local->inner.names.lookup p.1=some .local
 free:∀ p∈inner.names,p.2=.free->sc.names.lookup p.1=some .cell\/sc.names.lookup p.1=some .free
structure JG (inner sc:Scope) (sm:List (Str × Nat)) (x:Str) (i:Nat):Prop where
 sco:vL inner sc
 var:inner.names.lookup x=some .local
 only:∀ p∈inner.names,p.2=.local->p.1=x\/sm.lookup p.1=none
 slot:∀ y j,sm.lookup y=some j->j≠i
theorem Xu (h1:uN inner sc x=true) (h2:(inner.names.all fun p=>p.2 != .local||p.1==x||(sm.lookup p.1).isNone)=true) (h3:(sm.all fun p=>p.2 != i)=true):JG inner sc sm x i:=by
 unfold uN at h1
 simp only [and_eq_true,beq_iff_eq] at h1
 refine zc h1 fun wz2x0 al=>?_;obtain ⟨k,v⟩:=wz2x0
 rw [all_eq_true] at al h2 h3
 refine ⟨⟨k,fun p hp e=>?_,fun p hp e=>?_,fun p hp e=>?_⟩,v,fun p hp e=>?_,fun y j hy e=>?_⟩
 ·have:=al p hp;simp [e] at this
 ·have:=al p hp;simp [e] at this;exact this
 ·have:=al p hp;simp [e] at this;exact this
 ·have:=h2 p hp
  simp only [e,bne_self_eq_false,Bool.false_or,or_eq_true,beq_iff_eq,isNone_iff_eq_none] at this;exact this
 ·have:=h3 _ (zh hy);simp [e] at this
theorem QJ (ok:vL inner sc) (hs:env.scope=sc) (hk:sc.kind=.function) (y:Str):(zw env inner D).kindOf y=some .local/\inner.names.lookup y=some .local \/
  ((zw env inner D).kindOf y=some .cell\/(zw env inner D).kindOf y=some .free)/\inner.names.lookup y=some .free\/jL ((zw env inner D).kindOf y)=false:=by
 have e:(zw env inner D).kindOf y=(inner.names.lookup y).map fun k=>if (k==.free&&sc.kind==.function&&sc.names.lookup y==some .cell) then .cell else k:=by
  have:=kG inner sc y
  rw [<- hs] at this ⊢
  exact this
 rw [e]
 clear hs hk e;cases hl:inner.names.lookup y with
 |none=>exact .inr (.inr rfl)
 |some k =>
  cases k with
  | «local»=>exact .inl ⟨rfl,rfl⟩
  |cell=>exact absurd rfl (ok.nocell _ (zh hl))
  |free =>
   refine .inr (.inl ⟨?_,rfl⟩)
   simp only [map_some]
   split
   ·exact .inl rfl
   ·exact .inr rfl
  |globalExplicit=>exact .inr (.inr rfl)
  |globalImplicit=>exact .inr (.inr rfl)
theorem ZK (ok:vL inner S.sc) (cx:Cx S f ρ o h) {m:Str->Option Value} (hn:h.Ns D m) (hne:∀ y c,f.env.cells.lookup y=some c->c≠D):Frm (zw f.env inner D) h:=by
 have hk:S.sc.kind=.function:=by rw [<- cx.scope];exact cx.frm.kind
 refine ⟨ok.kind,cx.frm.glob,cx.frm.bl,⟨m,hn⟩,fun y c l=>?_,fun y z c l l'=>?_,fun y hy=>?_⟩
 ·clear m hn;rcases qe _ _ y c l with ⟨k,hm,rfl,q⟩ | q
  ·exact ⟨(cx.frm.cell y c q).1,hne y c q⟩
  ·clear hne;exact no1 q
 ·clear m hn hne;rcases qe _ _ y c l with ⟨k,hm,rfl,q⟩ | q
  ·clear l;rcases qe _ _ z c l' with ⟨k',hm',rfl,q'⟩ | q'
   ·exact cx.frm.cinj y z c q q'
   ·clear l';exact no1 q'
  ·clear l l';exact no1 q
 ·clear m hn hne;rcases QJ (D:=D) ok cx.scope hk y with ⟨k,_⟩ | ⟨_,hl⟩ | k
  ·rw [k] at hy;clear hk;rcases hy with q | q <;> cases q
  ·have hm:=zh hl
   have hf:=ok.free _ hm rfl
   refine ob11 (cx.frm.has y (by rw [cx.kind];exact hf)) fun c hc=>?_
   exact wY _ _ (.inl ⟨hm,c,hc⟩)
  ·clear ok cx hk;rcases hy with q | q <;> (rw [q] at k;clear q;cases k)
theorem yO {y:Str} (hs:env.scope=sc) (h:inner.names.lookup y=some .local):(zw env inner D).kindOf y=some .local:=by
 have e:(zw env inner D).kindOf y=(inner.names.lookup y).map fun k=>if (k==.free&&sc.kind==.function&&sc.names.lookup y==some .cell) then .cell else k:=by
  have:=kG inner sc y
  rw [<- hs] at this ⊢
  exact this
 rw [e,h];rfl
theorem uM {y:Str} (ok:vL inner S.sc) (cx:Cx S f ρ o h) {k:Nat} {t:Tr} (nl:inner.names.lookup y≠some .local) (hy:jL ((zw f.env inner D).kindOf y)=true) (hl:S.sm.lookup y=some k) (he:ρ[k]?=some (some t)):∃ v,yG (zw f.env inner D) h y v/\Rd S.B h (cS o (S.g.sh.getD k .i)) t v:=by
 have hk:S.sc.kind=.function:=by rw [<- cx.scope];exact cx.frm.kind
 rcases QJ (D:=D) ok cx.scope hk y with ⟨_,q⟩ | ⟨kk,q⟩ | q
 ·exact (nl q).elim
 ·have hmem:=zh q
  have hf:=ok.free _ hmem rfl
  refine ob12 (cx.vars y k t (by rw [cx.kind];clear ok nl hk;rcases hf with q | q <;> rw [q] <;> rfl) hl he) fun u' b r=>?_
  clear ok nl hl he hk;rcases b with ⟨q,_⟩ | ⟨_,c,hc,hi⟩
  ·rw [cx.kind] at q;clear cx;rcases hf with z | z <;> (rw [z] at q;clear z;cases q)
  ·refine ⟨u',.inr ⟨kk,c,?_,hi⟩,r⟩
   refine ob11 (wY (env:=f.env) (x:=y) inner.names [] (.inl ⟨hmem,c,hc⟩)) fun c' hc'=>?_
   clear cx k t kk hmem hf u' r hi;rcases qe _ _ y c' hc' with ⟨_,_,_,q⟩ | q
   ·rw [hc] at q;clear hc;obtain rfl:=sj q;exact hc'
   ·clear hc hc';exact no1 q
 ·rw [q] at hy;clear ok cx nl hl he hk q;exact no3 hy
theorem xZ {ρ:VS} {i:Nat} {v u:Tr} (he:(ρ.set i (some v))[i]?=some (some u)):u=v:=by
 have lt:i<(ρ.set i (some v)).length:=(List.getElem?_eq_some_iff.mp he).1
 rw [getElem?_set_self (by rw [length_set] at lt;exact lt)] at he
 exact (Option.some.inj (Option.some.inj he)).symm
theorem Vp {B:Heap} {c1 c2:Sh} {t:Tr} {v:Value} (e:c1.cov c2=true) (r:Rd B h (cS o c1) t v):Rd B h (cS o c2) t v:=by
 cases c1 with
 |i =>
  refine r.to fun p a q=>?_
  have q:o a=none:=q
  cases c2 with
  |i=>exact q
  |b=>exact .inl q
  |u=>trivial
  |L s=>show (match (Sh.L s).mem p with | true=>True | false=>o a=none);cases (Sh.L s).mem p;exact q;trivial
  |T=>show (match Sh.T.mem p with | true=>True | false=>o a=none);cases Sh.T.mem p;exact q;trivial
  |D=>show (match Sh.D.mem p with | true=>True | false=>o a=none);cases Sh.D.mem p;exact q;trivial
 |b=>cases c2 with
  |b=>exact r
  |u=>exact r.to fun _ _ _=>trivial
  | _=>cases e
 | _=>cases c2 with
  |u=>exact r.to fun _ _ _=>trivial
  | _=>clear r;cases e
noncomputable def Su.at (S:Su) (sc:Scope) (sm:List (Str × Nat)):Su:={ S with sc:=sc,sm:=sm }
noncomputable def Z3 (S:Su) (env:Env) (sm:List (Str × Nat)) (ρ:VS) (o:Own) (h:Heap):Prop :=
 ∀ (x:Str) (i:Nat) (t:Tr),jL (env.kindOf x)=true->sm.lookup x=some i->ρ[i]?=some (some t)->∃ v,yG env h x v/\Rd S.B h (cS o (S.g.sh.getD i .i)) t v
theorem Xr (ok:JG inner S.sc S.sm x i) (cx:Cx S f ρ o h) {m:Str->Option Value} (hn:h.Ns D m) {t:Tr} {v:Value} (hm:m x=some v) (hv:Rd S.B h (cS o (S.g.sh.getD i .i)) t v):Z3 S (zw f.env inner D) ((x,i)::S.sm) (ρ.set i (some t)) o h:=by
 intro y j u hy hl he
 rw [lookup_cons] at hl
 by_cases hx:(y==x)=true
 ·rw [hx] at hl
  rw [beq_iff_eq] at hx;subst hx
  obtain rfl:=sj hl
  rw [xZ he]
  exact ⟨v,.inl ⟨yO cx.scope ok.var,m,hn,hm⟩,hv⟩
 ·rw [show (y==x)=false by simpa using hx] at hl
  rw [getElem?_set_ne (Ne.symm (ok.slot y j hl))] at he
  refine uM ok.sco cx (fun q=>?_) hy hl he
  clear cx m hn t v hm hv u hy he;rcases ok.only _ (zh q) rfl with q | q
  ·simp at q;clear ok;subst q;simp at hx
  ·simp only at q;rw [q] at hl;clear ok q;exact no1 hl
end
section
variable {S:Su} {f:Fr} {ρ:VS} {o:Own} {s:Shared}
noncomputable def vK (S:Su) (c:za) (ifs:List Expr):Prop :=
 ∀ {f:Fr} {ρ:VS} {o:Own} {s:Shared} {Q:Bool->Shared->Prop},Cx S f ρ o s.heap->Po S f o RB Q s ((S.E c ρ).bind fun t=>Ex.opt (zd t)) ->
  wpAny S.M f.A (forIn ifs true fun c r=>if r=true then do let ok <- isTrue c f.env (eval c f.env);pure (ForInStep.yield ok) else pure (ForInStep.yield r)) Q f.X.E s
theorem JP:vK S (.const (.bool true)) []:=fun cx p=>wpAny_pure (Po.here' p cx.rel rfl)
theorem X0 {c:za} {e:Expr} (h:ST S c e):vK S c [e]:=fun {f ρ o s Q} cx p=>by
 refine wpAny_forIn_list _ (fun l b s'=>(l=[e]/\b=true/\s'=s)\/(l=[]/\Q b s')) Q (fun y rest b s' hI=>?_) (fun b s' hI=>?_) [e] true (.inl ⟨rfl,rfl,rfl⟩)
 ·rcases hI with ⟨e,rfl,rfl⟩ | ⟨e,_⟩
  ·cases e
   rw [if_pos rfl]
   refine wpAny_bind (h cx ?_)
   clear h cx;revert p;cases (S.E c ρ).bind fun t=>Ex.opt (zd t) with
   |ok b=>intro p;exact fun b' h' tk r g hb=>wpAny_pure (.inr ⟨rfl,p b' h' tk r g hb⟩)
   |exc c=>intro p;exact p
   |stuck=>intro p;exact p
  ·clear c h ρ o cx p;exact no8 e
 ·clear c h f ρ o cx p;rcases hI with ⟨e,_⟩ | ⟨_,q⟩
  ·exact no7 e
  ·exact q
end
theorem Ws {o o':Own} {a:Addr} (e:o' a=o a):Qb o' a=Qb o a:=by show frS _=frS _;rw [e]
theorem Ar {o o':Own} {c:Sh} {p:List Nat} {a:Addr} (e:o' a=o a):cS o' c p a=cS o c p a:=by unfold cS;rw [Ws e,e]
theorem Rd.lab {B h h':Heap} {o o':Own} {c:Sh} {t:Tr} {v:Value} (r:Rd B h (cS o c) t v) (np:∀ b ob,look h b=some ob->o' b=o b/\look h' b=some ob):Rd B h' (cS o' c) t v:=r.mono fun p a ob q e =>
 ⟨by rw [Ar (np a ob e).1];exact q,(np a ob e).2⟩
noncomputable def cE (X:Option Nat) (o:Own) (j:Nat):Cl:=match X with
 |none=>imm o
 |some x=>fun p a=>o a=cond ((Sh.L .i).mem p) (some (x,j::p)) none
noncomputable def XOk (X:Option Nat):Prop:=∀ x,X=some x->x≠bL/\x≠bF
theorem KS {X:Option Nat} {o:Own} {j:Nat} {p:List Nat} {a:Addr} (hX:XOk X) (q:cE X o j p a):o a≠some (bL,[]):=fun z=>by
 clear hX;cases X with
 |none=>exact nomatch z.symm.trans q
 |some x =>
  have q:o a=cond ((Sh.L .i).mem p) (some (x,j::p)) none:=q
  rw [z] at q
  clear z;cases e:(Sh.L .i).mem p <;> rw [e] at q <;> cases q
theorem As {X:Option Nat} {o o':Own} {j:Nat} {p:List Nat} {a:Addr} (e:o' a=o a) (q:cE X o j p a):cE X o' j p a:=by
 cases X with
 |none=>exact e.trans q
 |some x=>exact e.trans q
noncomputable def jw (S:Su) (X:Option Nat) (o:Own) (h:Heap) (ts:List Tr) (ys:List Value):Prop:=ys.length=ts.length/\∀ (j:Nat) t v,ts[j]?=some t->ys[j]?=some v->Rd S.B h (cE X o j) t v
noncomputable def EVl (X:Option Nat) (S:Su) (c:Sh) (o:Own) (h0:Heap):Heap->Tr->Value->Prop:=match X with
 |none=>RV S (cS o c)
 |some _=>RW S o h0
noncomputable def SEl (X:Option Nat) (S:Su) (m:za) (e:Expr):Prop :=
 ∀ ⦃f:Fr⦄ ⦃ρ:VS⦄ ⦃o:Own⦄ ⦃s:Shared⦄ ⦃Q:Value->Shared->Prop⦄,Cx S f ρ o s.heap->Po S f o (EVl X S (S.c m) o s.heap) Q s (S.E m ρ)->wpAny S.M f.A (eval e f.env) Q f.X.E s
theorem SE.el {S:Su} {m:za} {e:Expr} (h:SE S m e):SEl none S m e:=fun f ρ o s Q c p=>h c p
theorem SR.el {S:Su} {m:za} {e:Expr} {X:Nat} (h:SR S m e):SEl (some X) S m e:=fun f ρ o s Q c p=>h c p
section
variable {S:Su} {f:Fr} {ρ:VS} {o:Own} {s:Shared} {inner:Scope} {sm':List (Str × Nat)} {I D Cn:Addr}
structure WS (M:Model) (A:Around) {α:Type} (items:List α) (I:Addr) (P:Addr->Prop) (Src:Heap->Prop) (At:Nat->Heap->Prop) (tgt:Expr) (cenv:Env) (Bnd:α->(Str->Option Value)->Prop):Prop where
 frame:∀ i h h',At i h->(∀ b ob,P b->look h b=some ob->look h' b=some ob)->At i h'
 alive:∀ i h,At i h->∀ b,P b->∃ ob,h.get? b=some ob
 item:∀ i a (s:Shared) m (Q:Unit->Shared->Prop) (E:Value->Shared->Prop),items[i]?=some a->At i s.heap->Src s.heap->s.heap.Ns cenv.locals m ->
  (∀ h' tk m',At (i+1) h'->h'.Ns cenv.locals m'->Bnd a m'->(∀ b ob,¬ P b->b≠cenv.locals->s.heap.get? b=some ob->h'.get? b=some ob)->Q () (up s h' tk)) ->
  wpAny M A (pyNext (.ref I)) (fun r s₁=>∃ v,r=some v/\wpAny M A (letOwnedTupleGo tgt (.ref I) v) (fun _ s₁'=>wpAny M A (assign tgt cenv v) Q E s₁') E s₁) E s
 done:∀ (s:Shared) (Q:Option Value->Shared->Prop) (E:Value->Shared->Prop),At items.length s.heap->Src s.heap ->
  (∀ h' tk,(∀ b ob,¬ P b->s.heap.get? b=some ob->h'.get? b=some ob)->Q none (up s h' tk))->wpAny M A (pyNext (.ref I)) Q E s
noncomputable def vy (X:Option Nat) (S:Su) (f:Fr) (o:Own) (s:Shared) (D Cn:Addr) (R:Result->Shared->Prop):Ex (List Tr)->Prop
 | .ok ts=>∀ o' h' tk ys k m,HB S.B o h'->(∀ a,o' a≠none->o' a≠some (bL,[])->S.B.get? a=none/\∃ ob,h'.get? a=some ob)->yH o'->(∀ b ob,look s.heap b=some ob->o' b=o b)->o' D=some (bL,[])->o' Cn=some (bL,[])->zA s.heap h'->h'.get? D=some (zf ys k)->jw S X o' h' ts ys->h'.Ns Cn m->R (.ok .next) (up s h' tk)
 | .exc c=>∀ h' tk e base m,HBx S.B o base->yz S.B c->qf KW o o s.heap base h'->base.StaysIn h'->base.get? e=none->h'.FunFrames base f.X.l->Trc h' base e (.ref (yV S.B c))->h'.Ns Cn m->R (.error (.ref e)) (up s h' tk)
 | .stuck=>False
theorem uO {prog:Program} {w:World} {A:Around} {s:Shared} {elt target iter:Expr} {ifs:List Expr} {scope:Scope} {pos:Pos} {it acc:Value} {env:Env} {R:Result->Shared->Prop} (I:Nat->Shared->Prop)
  (turn:∀ n s,I n s->wpAny (model prog w) A (pyNext it) (fun r s₁=>match r with
   |none=>R (.ok .next) s₁
   |some v=>wpAny (model prog w) A (letOwnedTupleGo target it v) (fun _ s₁'=>wpAny (model prog w) A (assign target env v) (fun _ s₂ =>
     wpAny (model prog w) A (forIn ifs true fun c r=>if r=true then do let ok <- isTrue c env (eval c env);pure (ForInStep.yield ok) else pure (ForInStep.yield r)) (fun ok s₃ =>
      if ok=true then wpAny (model prog w) A (eval elt env) (fun x s₄ =>
       wpAny (model prog w) A (call (.builtin "list.append") [acc,x]) (fun _ s₅=>∃ m,m<n/\I m s₅) (notedBy (model prog w) A env fun e s'=>R (.error e) s') s₄) (notedBy (model prog w) A env fun e s'=>R (.error e) s') s₃
      else ∃ m,m<n/\I m s₃) (notedBy (model prog w) A env fun e s'=>R (.error e) s') s₂) (notedBy (model prog w) A env fun e s'=>R (.error e) s') s₁') (notedBy (model prog w) A env fun e s'=>R (.error e) s') s₁) (notedBy (model prog w) A env fun e s'=>R (.error e) s') s)
  (n:Nat) (h:I n s):codeAny (model prog w) A (.compLoop (.ListComp elt [⟨target,iter,ifs,0⟩] scope pos) 0 it acc env) R s:=by
 refine codeAny_loop rfl I (fun n s hI=>?_) n h
 show wpAny _ A ((compTurn (.ListComp elt [⟨target,iter,ifs,0⟩] scope pos) 0 it acc env).onRaise (fun x=>do noteFrame x env;theTreesLotGoes x)) _ _ s
 refine wpAny_noted ?_
 rw [compTurn_list]
 refine wpAny_bind (wpAny_standAt (wpAny_bind (wpAny_mono (turn n s hI) (fun r s₁ h₁=>?_) fun _ _ h'=>h')))
 clear s turn h hI;cases r with
 |none=>exact wpAny_pure h₁
 |some v =>
  refine wpAny_bind (wpAny_mono h₁ (fun _ s₁' h₁'=>?_) fun _ _ h'=>h')
  refine wpAny_bind (wpAny_mono h₁' (fun _ s₂ h₂=>wpAny_bind (wpAny_mono h₂ (fun ok s₃ h₃=>?_) fun _ _ h'=>h')) fun _ _ h'=>h')
  clear s s₁ s₁' s₂ h₁ h₁' h₂;cases ok with
  |false=>exact wpAny_pure ⟨rfl,h₃⟩
  |true=>exact wpAny_bind (wpAny_bind (wpAny_mono h₃ (fun x s₄ h₄=>wpAny_bind (wpAny_mono h₄ (fun _ s₅ h₅=>wpAny_pure (wpAny_pure ⟨rfl,h₅⟩)) fun _ _ h'=>h')) fun _ _ h'=>h'))
theorem XT {c e:VS->Ex Tr} {ρ:VS}:yW c e ρ=((c ρ).bind fun t=>Ex.opt (zd t)).bind fun b=>if b then (e ρ).bind fun r=>.ok (some r) else .ok none:=by
 unfold yW;cases c ρ <;> rfl
theorem HBx.ofC {o':Own} {h:Heap} (r:HBx S.B o' h) (k:∀ a,o a≠none->o' a=o a):HBx S.B o h :=
 ⟨r.base,fun a n=>by
  have:=r.own a (by rw [k a n];exact n)
  rw [k a n] at this;exact this⟩
theorem Cx.lab {o':Own} {h:Heap} (cx:Cx S f ρ o s.heap) (np:∀ b ob,look s.heap b=some ob->o' b=o b/\look h b=some ob) (r:HB S.B o' h) (fl:yH o'):Cx S f ρ o' h :=
 have k:xw f.env s.heap h:=fun b ob _ e=>(np b ob e).2
 ⟨cx.scope,cx.ok,cx.frm.at k,fun x i t a b e=>(cx.vars x i t a b e).imp fun _ z=>⟨z.1.kept k,z.2.lab np⟩,r,fl,cx.frames,fun e he=>by
  obtain ⟨h1,L,h2,h3,h4,m,h5⟩:=cx.fok e he
  obtain ⟨ob,e0⟩:=zZ h5
  exact ⟨h1,L,h2,by rw [(np L _ (zm e0)).1];exact h3,h4,m,yF h5 fun ob e=>(np L ob e).2⟩,cx.here,cx.apart⟩
theorem Ex.bind_bind {α β γ:Type} {x:Ex α} {k:α->Ex β} {l:β->Ex γ}:(x.bind k).bind l=x.bind fun a=>(k a).bind l:=by cases x <;> rfl
noncomputable abbrev Pf (P:Addr->Prop) (D Cn:Addr):Addr->Prop:=fun b=>P b\/b=D\/b=Cn
open Classical in
noncomputable def qI (o:Own) (b:Addr) (xq:Nat × List Nat):Own:=fun a=>if a=b then some xq else o a
theorem yQ (o:Own) (b:Addr) (xq:Nat × List Nat):qI o b xq b=some xq:=if_pos rfl
theorem ye {b a:Addr} {xq:Nat × List Nat} (l:a≠b):qI o b xq a=o a:=if_neg l
theorem yw {h:Heap} {b a:Addr} {ob:Obj} {xq:Nat × List Nat} (n:h.get? b=none) (e:look h a=some ob):qI o b xq a=o a:=ye fun z=>by
 obtain ⟨_,y,_⟩:=zp e;rw [z,n] at y;clear h b a xq n e z;exact no1 y
theorem qH {b:Addr} {xq:Nat × List Nat} (k:yH o) (l:xq.1≠bL/\xq.1≠bF):yH (qI o b xq):=fun a x p e z=>by
 by_cases q:a=b
 ·subst q
  rw [yQ] at e
  have e:=congrArg Prod.fst (Option.some.inj e)
  have e:xq.1=x:=e
  rw [<- e] at z
  rcases z with z | z
  ·exact absurd z l.1
  ·exact absurd z l.2
 ·rw [ye q] at e;exact k a x p e z
theorem qQ {B h:Heap} {b:Addr} {xq:Nat × List Nat} (r:HB B o h) (n:B.get? b=none) (al:∃ ob,h.get? b=some ob):HB B (qI o b xq) h:=⟨r.base,fun a z=>by
 by_cases q:a=b
 ·exact q▸⟨n,al⟩
 ·rw [ye q] at z;exact r.own a z⟩
theorem jG {x:Nat} (l:x<bB):x≠bL/\x≠bF:=⟨fun z=>by rw [z] at l;exact absurd l (by decide),fun z=>by rw [z] at l;exact absurd l (by decide)⟩
theorem G6 {X:Option Nat} {c:Sh} {h h':Heap} {t:Tr} {v:Value} {n:Nat} (hX:XOk X) (r:HB S.B o h') (r0:HB S.B o h) (fl:yH o) (st:zM c t=true) (e:EVl X S c o h h' t v):∃ o1,HB S.B o1 h'/\yH o1/\(∀ b ob,look h b=some ob->o1 b=o b)/\Rd S.B h' (cE X o1 n) t v:=by
 cases X with
 |none=>exact ⟨o,r,fl,fun _ _ _=>rfl,Rd.st (show Rd S.B h' (cS o c) t v from e) st⟩
 |some x =>
  have e:RW S o h h' t v:=e
  clear st;cases t with
  |sc y=>exact ⟨o,r,fl,fun _ _ _=>rfl,.sc e⟩
  |nd k ts =>
   obtain ⟨a,ys,m,rfl,rfl,e3,e4,e5,e6,e7⟩:=e
   refine ⟨qI o a (x,[n]),qQ r (r0.freeB e3) ⟨_,e5⟩,qH fl (hX x rfl),fun b ob e=>yw e3 e,.nd (yQ ..) ⟨e6,m,e5⟩ e7.len fun j t v q1 q2=>(e7.at q1 q2).to fun p b q=>?_⟩
   obtain ⟨n1,n2⟩:=v9 q
   exact (ye n1).trans n2
theorem jw.nil {X:Option Nat} {h:Heap}:jw S X o h [] []:=⟨rfl,fun _ _ _ e=>nomatch e⟩
theorem jw.snoc {X:Option Nat} {o':Own} {h h':Heap} {ts:List Tr} {ys:List Value} {t:Tr} {v:Value} (r:jw S X o h ts ys) (k:∀ b ob,o b≠some (bL,[])->look h b=some ob->look h' b=some ob/\o' b=o b) (hX:XOk X) (q:Rd S.B h' (cE X o' ts.length) t v):jw S X o' h' (ts++[t]) (ys++[v]):=by
 refine ⟨by rw [length_append,length_append,r.1];rfl,fun j t' v' e1 e2=>?_⟩
 by_cases lj:j<ts.length
 ·rw [getElem?_append_left lj] at e1
  rw [getElem?_append_left (by rw [r.1];exact lj)] at e2
  exact (r.2 j t' v' e1 e2).mono fun p b ob f1 f2=>⟨As (k b ob (KS hX f1) f2).2 f1,(k b ob (KS hX f1) f2).1⟩
 ·have lj:=le_of_not_lt lj
  rw [getElem?_append_right lj] at e1
  rw [getElem?_append_right (by rw [r.1];exact lj),r.1] at e2
  clear h ys r k hX;cases ej:j-ts.length with
  |succ n=>rw [ej] at e1;exact no1 e1
  |zero =>
   rw [ej] at e1 e2
   obtain rfl:=sj e1;obtain rfl:=sj e2
   have:j=ts.length:=le_antisymm (sub_eq_zero_iff_le.mp ej) lj
   clear lj;subst this;exact q
theorem jw.keep {X:Option Nat} {h h':Heap} {ts:List Tr} {ys:List Value} (r:jw S X o h ts ys) (k:∀ b ob,o b≠some (bL,[])->look h b=some ob->look h' b=some ob) (hX:XOk X):jw S X o h' ts ys :=
 ⟨r.1,fun j t v e1 e2=>(r.2 j t v e1 e2).mono fun p b ob f1 f2=>⟨f1,k b ob (KS hX f1) f2⟩⟩
theorem G5 {X:Option Nat} {sc:Scope} {sm:List (Str × Nat)} {c:Sh} {h0 h:Heap} {t:Tr} {v:Value} (e:EVl X (S.at sc sm) c o h0 h t v):EVl X S c o h0 h t v:=by cases X <;> exact e
@[elab_as_elim] theorem UA {P:Addr->Prop} {D Cn:Addr} {Q:Addr->Prop} {b:Addr} (p:Pf P D Cn b) (h1:P b->Q b) (h2:Q D) (h3:Q Cn):Q b:=p.elim h1 fun p=>p.elim (fun e=>eqr e h2) fun e=>eqr e h3
structure TIv {α:Type} (X:Option Nat) (S:Su) (f:Fr) (o:Own) (s:Shared) (D Cn:Addr) (R:Result->Shared->Prop) (P:Addr->Prop) (items:List α) (At:Nat->Heap->Prop) (h₁:Heap) (V:List α->Ex (List Tr)) (j:Nat) (o':Own) (hj:Heap) (ys:List Value) (nn:Nat) (m:Str->Option Value) (done:List Tr):Prop where
 lj:j<=items.length
 rj:HB S.B o' hj
 flj:yH o'
 plj:∀ b,Pf P D Cn b->o' b=some (bL,[])
 kj:∀ b ob,¬ Pf P D Cn b->look h₁ b=some ob->o' b=o b/\look hj b=some ob
 atj:At j hj
 dj:hj.get? D=some (zf ys nn)
 vj:jw S X o' hj done ys
 nj:hj.Ns Cn m
 hdl:done.length<=j
 Pj:vy X S f o s D Cn R ((V (items.drop j)).bind fun rs=>.ok (done++rs))
theorem AH {α β γ δ ε ζ η θ:Type} {A:α->β->γ->δ->ε->ζ->η->θ->Prop} {P:Prop} (h:∃ a b c d e f g i,A a b c d e f g i) (k:∀ a b c d e f g i,A a b c d e f g i->P):P:=h.elim fun a h=>h.elim fun b h=>h.elim fun c h=>h.elim fun d h=>h.elim fun e h=>h.elim fun f h=>h.elim fun g h=>h.elim fun i h=>k a b c d e f g i h
theorem Xs {X:Option Nat} {α:Type} {items:List α} {up1:α->VS} {Bnd:α->(Str->Option Value)->Prop} {P:Addr->Prop} {Src:Heap->Prop} {At:Nat->Heap->Prop} {elt c:za} {e1 iter tgt:Expr} {ifs:List Expr} {pos:Pos} {h₁:Heap} {tk₁:Nat} {m₁:Str->Option Value} {k₁:Nat} {R:Result->Shared->Prop}
  (hX:XOk X) (ok:vL inner S.sc) (cx:Cx S f ρ o s.heap) (HE:SEl X (S.at (zY inner S.sc) sm') elt e1) (HT:vK (S.at (zY inner S.sc) sm') c ifs)
  (it:WS S.M f.A items I P Src At tgt (zw f.env inner Cn) Bnd) (src:∀ h',(∀ b ob,¬ Pf P D Cn b->look h₁ b=some ob->look h' b=some ob)->Src h')
  (hvar:∀ a m h o',a∈items->Bnd a m->(∀ b ob,¬ Pf P D Cn b->look h₁ b=some ob->o' b=o b/\look h b=some ob)->Cx S f ρ o' h->h.Ns Cn m->Z3 S (zw f.env inner Cn) sm' (up1 a) o' h)
  (fr:∀ b,Pf P D Cn b->s.heap.get? b=none/\S.B.get? b=none) (nID:¬ P D) (nIC:¬ P Cn) (nDC:D≠Cn) (hl:items.length<=lim)
  (r₁:HB S.B o h₁) (g₁:zA s.heap h₁) (at₁:At 0 h₁) (d₁:h₁.get? D=some (zf [] k₁)) (n₁:h₁.Ns Cn m₁)
  (Pp:vy X S f o s D Cn R (yl (S.c elt) (fun a=>yW (S.E c) (S.E elt) (up1 a)) items)) :
  codeAny S.M f.A (.compLoop (.ListComp e1 [⟨tgt,iter,ifs,0⟩] inner pos) 0 (.ref I) (.ref D) (zw f.env inner Cn)) R (up s h₁ tk₁):=by
 let V:List α->Ex (List Tr):=yl (S.c elt) fun a=>yW (S.E c) (S.E elt) (up1 a)
 let TI:Nat->Shared->Prop:=fun k s'=>∃ j o' hj tkj ys nn m done,k=items.length-j/\s'=up s hj tkj/\TIv X S f o s D Cn R P items At h₁ V j o' hj ys nn m done
 have nPf:∀ {b ob},look s.heap b=some ob->¬ Pf P D Cn b:=fun {b ob} e p=>by obtain ⟨_,z,_⟩:=zp e;rw [(fr b p).1] at z;clear iter pos hl;exact no1 z
 have grow:∀ {o':Own} {h:Heap},(∀ b ob,¬ Pf P D Cn b->look h₁ b=some ob->o' b=o b/\look h b=some ob)->∀ b ob,look s.heap b=some ob->o' b=o b/\look h b=some ob:=fun k b ob e=>k b ob (nPf e) (g₁ b ob e)
 have nB:∀ b ob,S.B.get? b=some ob->¬ Pf P D Cn b:=fun b ob e p=>by rw [(fr b p).2] at e;clear iter pos hl g₁;exact no1 e
 have hbk:∀ {o':Own} {h h':Heap},HB S.B o' h->(∀ b,Pf P D Cn b->o' b=some (bL,[]))->(∀ b ob,¬ Pf P D Cn b->h.get? b=some ob->∃ ob',h'.get? b=some ob')->(∀ b ob,S.B.get? b=some ob->h'.get? b=some ob)->(∀ b,Pf P D Cn b->∃ ob,h'.get? b=some ob)->HB S.B o' h':=fun r pl k kb kp=>⟨kb,fun a n=>⟨(r.own a n).1,by
  by_cases p:Pf P D Cn a
  ·exact kp a p
  ·obtain ⟨ob,e⟩:=(r.own a n).2;exact k a ob p e⟩⟩
 have npl:∀ {o':Own} {b:Addr},(∀ b,Pf P D Cn b->o' b=some (bL,[]))->o' b≠some (bL,[])->¬ Pf P D Cn b:=fun pl n p=>n (pl _ p)
 refine uO TI (fun k s' hI=>?_) items.length ⟨0,oC o (Pf P D Cn),h₁,tk₁,[],k₁,m₁,[],rfl,rfl,zero_le _,⟨r₁.base,fun a n=>?_⟩,cx.flo.oC,fun b p=>Qp p,fun b ob n e=>⟨kD n,e⟩,at₁,d₁,.nil,n₁,Nat.le_refl _,?_⟩
 ·refine AH hI fun j o' hj tkj ys nn m done hI=>?_
  refine yP hI fun ek es hI=>?_
  refine eqr es ?_
  refine eqr (P:=fun k=>wpAny S.M f.A (pyNext (.ref I)) (fun r s₁=>match r with
   |none=>R (.ok .next) s₁
   |some v=>wpAny S.M f.A (letOwnedTupleGo tgt (.ref I) v) (fun _ s₁'=>wpAny S.M f.A (assign tgt (zw f.env inner Cn) v) (fun _ s₂ =>
     wpAny S.M f.A (forIn ifs true fun c r=>if r=true then do let ok <- isTrue c (zw f.env inner Cn) (eval c (zw f.env inner Cn));pure (ForInStep.yield ok) else pure (ForInStep.yield r)) (fun ok s₃ =>
      if ok=true then wpAny S.M f.A (eval e1 (zw f.env inner Cn)) (fun x s₄ =>
       wpAny S.M f.A (call (.builtin "list.append") [.ref D,x]) (fun _ s₅=>∃ m,m<k/\TI m s₅) (notedBy S.M f.A (zw f.env inner Cn) fun e s'=>R (.error e) s') s₄) (notedBy S.M f.A (zw f.env inner Cn) fun e s'=>R (.error e) s') s₃
      else ∃ m,m<k/\TI m s₃) (notedBy S.M f.A (zw f.env inner Cn) fun e s'=>R (.error e) s') s₂) (notedBy S.M f.A (zw f.env inner Cn) fun e s'=>R (.error e) s') s₁') (notedBy S.M f.A (zw f.env inner Cn) fun e s'=>R (.error e) s') s₁) (notedBy S.M f.A (zw f.env inner Cn) fun e s'=>R (.error e) s') (up s hj tkj)) ek ?_
  clear ek es;cases hI with | mk lj rj flj plj kj atj dj vj nj hdl Pj=>?_
  by_cases lt:j<items.length
  ·rw [drop_eq_getElem_cons lt] at Pj
   have Pj:vy X S f o s D Cn R (((yW (S.E c) (S.E elt) (up1 items[j])).bind fun oo=>match oo with | some r=>cond (zM (S.c elt) r) ((V (items.drop (j+1))).bind fun rs=>.ok (r::rs)) .stuck | none=>V (items.drop (j+1))).bind fun rs=>.ok (done++rs)):=Pj
   rw [XT] at Pj
   refine wpAny_mono (it.item j items[j] _ m (fun _ s₂=>wpAny S.M f.A (forIn ifs true fun c r=>if r=true then do let ok <- isTrue c (zw f.env inner Cn) (eval c (zw f.env inner Cn));pure (ForInStep.yield ok) else pure (ForInStep.yield r)) (fun ok s₃ =>
      if ok=true then wpAny S.M f.A (eval e1 (zw f.env inner Cn)) (fun x s₄ =>
       wpAny S.M f.A (call (.builtin "list.append") [.ref D,x]) (fun _ s₅=>∃ m,m<items.length-j/\TI m s₅) (notedBy S.M f.A (zw f.env inner Cn) fun e s'=>R (.error e) s') s₄) (notedBy S.M f.A (zw f.env inner Cn) fun e s'=>R (.error e) s') s₃
      else ∃ m,m<items.length-j/\TI m s₃) (notedBy S.M f.A (zw f.env inner Cn) fun e s'=>R (.error e) s') s₂) _ (getElem?_eq_getElem lt) atj (src _ fun b ob n e=>(kj b ob n e).2) nj fun h2 tk1 m2 at2 n2 bnd k2=>?_) (fun r s₁ q=>q.elim fun v z=>eqr z.1 z.2) fun _ _ z=>z
   have k2':∀ b ob,¬ Pf P D Cn b->hj.get? b=some ob->h2.get? b=some ob:=fun b ob nb e=>k2 b ob (fun p=>nb (.inl p)) (fun z=>nb (.inr (.inr z))) e
   have kk2:∀ b ob,¬ Pf P D Cn b->look hj b=some ob->look h2 b=some ob:=fun b ob nb e=>zb (fun ob'=>k2' b ob' nb) e
   have k12:∀ b ob,¬ Pf P D Cn b->look h₁ b=some ob->o' b=o b/\look h2 b=some ob:=fun b ob nb e=>⟨(kj b ob nb e).1,kk2 b ob nb (kj b ob nb e).2⟩
   have d2:h2.get? D=some (zf ys nn):=k2 D _ nID nDC dj
   have r2:HB S.B o' h2:=hbk rj plj (fun b ob n e=>⟨ob,k2' b ob n e⟩) (fun b ob e=>k2' b ob (nB b ob e) (rj.base b ob e)) fun b p=>UA p (it.alive _ _ at2 b) ⟨_,d2⟩ (zZ n2)
   have v2:=vj.keep (fun b ob n e=>kk2 b ob (npl plj n) e) hX
   have cxo:Cx S f ρ o' h2:=cx.lab (grow k12) r2 flj
   have hne:∀ y c,f.env.cells.lookup y=some c->c≠Cn:=fun y c q z=>by
    obtain ⟨⟨v,ob,e,_⟩,_⟩:=cx.frm.cell y c q
    rw [z,(fr Cn (.inr (.inr rfl))).1] at e;exact no1 e
   have cx2:Cx (S.at (zY inner S.sc) sm') ⟨zw f.env inner Cn,f.A,⟨f.X.l,notedBy S.M f.A (zw f.env inner Cn) fun e s'=>R (.error e) s'⟩,f.vs,f.o0⟩ (up1 items[j]) o' h2 :=
    ⟨by show relabel inner f.env=_;rw [Su.at,<- cx.scope];rfl,cx.ok,ZK ok cxo n2 hne,hvar _ _ _ _ (getElem_mem lt) bnd k12 cxo n2,r2,cxo.flo,cxo.frames,cxo.fok,cxo.here,fun e he L hL y q=>by
     rcases qe _ _ y L q with ⟨_,_,_,q⟩ | q
     ·exact cxo.apart e he L hL y q
     ·exact (nomatch q)⟩
   have hr:Th f.A f.X.l (zw f.env inner Cn):=⟨cxo.frames,cxo.here⟩
   have exc:∀ {d:Nat} {h':Heap} {tk:Nat},vy X S f o s D Cn R (.exc d)->zA h2 h'->PX S.B ⟨f.X.l,notedBy S.M f.A (zw f.env inner Cn) fun e s'=>R (.error e) s'⟩ (fun x _=>x=o') KW o' (up s h' tk) d:=fun {d h' tk} q ga =>
    PX.ofNoted hr fun o2 h3 tk' e base r xc i st b1 b2 b3 b4=>by
     subst i
     have gs:∀ b ob,look s.heap b=some ob->o2 b=o b/\look h' b=some ob:=fun b ob e=>⟨(grow k12 b ob e).1,ga b ob (grow k12 b ob e).2⟩
     refine q h3 tk' e base m2 (r.ofC fun a n=>?_) xc ⟨fun b ob _ e=>⟨(st.step b ob trivial (gs b ob e).2).1,rfl⟩,fun b ob _ e nd=>st.based b ob trivial (gs b ob e).2 (nd.imp id fun z y=>z ?_)⟩ b1 b2 b3 b4 (yF n2 fun ob e=>(st.step Cn ob trivial (ga Cn ob e)).1)
     ·obtain ⟨_,ob,e⟩:=cx.rel.own a n
      exact (gs a _ (zm e)).1
     ·rw [<- (gs b ob e).1];exact y
   refine HT (s:=up s h2 tk1) cx2 ?_
   show Po _ _ o' RB _ _ ((S.E c (up1 items[j])).bind fun t=>Ex.opt (zd t))
   revert Pj;cases (S.E c (up1 items[j])).bind fun t=>Ex.opt (zd t) with
   |stuck=>intro Pj;exact Pj.elim
   |exc d=>intro Pj;exact exc Pj fun _ _ e=>e
   |ok b =>
    intro Pj
    intro b' ha tka ra ga hb
    rw [<- show b=b' from hb]
    have k1a:∀ b ob,¬ Pf P D Cn b->look h₁ b=some ob->o' b=o b/\look ha b=some ob:=fun b ob nb e=>⟨(k12 b ob nb e).1,ga b ob (k12 b ob nb e).2⟩
    cases b with
    |true =>
     rw [if_pos rfl]
     refine HE (s:=up s ha tka) (cx2.grow ra ga) ?_
     show Po _ _ o' _ _ _ (S.E elt (up1 items[j]))
     have Pj:vy X S f o s D Cn R ((((S.E elt (up1 items[j])).bind fun r=>Ex.ok (some r)).bind fun oo=>match oo with | some r=>cond (zM (S.c elt) r) ((V (items.drop (j+1))).bind fun rs=>.ok (r::rs)) .stuck | none=>V (items.drop (j+1))).bind fun rs=>.ok (done++rs)):=Pj
     revert Pj;cases S.E elt (up1 items[j]) with
     |stuck=>intro Pj;exact Pj.elim
     |exc d=>intro Pj;exact exc Pj ga
     |ok t2 =>
      intro Pj
      have Pj:vy X S f o s D Cn R ((cond (zM (S.c elt) t2) ((V (items.drop (j+1))).bind fun rs=>.ok (t2::rs)) .stuck).bind fun rs=>.ok (done++rs)):=Pj
      cases hst:zM (S.c elt) t2 with
      |false=>rw [hst] at Pj;exact Pj.elim
      |true =>
       rw [hst] at Pj
       have Pj:vy X S f o s D Cn R (((V (items.drop (j+1))).bind fun rs=>.ok (t2::rs)).bind fun rs=>.ok (done++rs)):=Pj
       rw [Ex.bind_bind] at Pj
       intro v' hb' tkb rb gb hv
       obtain ⟨o1,r1,fl1,k1,rv⟩:=G6 (S:=S) (c:=S.c elt) (n:=done.length) hX rb ra flj hst (G5 hv)
       have ag:∀ b ob,look h2 b=some ob->look hb' b=some ob/\o1 b=o' b:=fun b ob e=>⟨gb b ob (ga b ob e),k1 b ob (ga b ob e)⟩
       have db:hb'.get? D=some (zf ys nn):=zx (ag D _ (zV d2 zj)).1 zj
       refine wpAny_list_append_plain (s:=up s hb' tkb) (items:=ys.toArray) ⟨nn,db⟩ (fun h3 p3 s3=>?_) (Nat.le_trans (le_of_eq vj.1) (Nat.le_trans hdl (Nat.le_trans lj (Nat.le_trans hl (by decide)))))
       obtain ⟨n3,d3⟩:=p3
       have d3':h3.get? D=some (zf (ys++[v']) n3):=by rw [d3];simp
       have al2:∀ b,Pf P D Cn b->∃ ob,look h2 b=some ob:=fun b p=>UA (Q:=fun b=>∃ ob,look h2 b=some ob) p (fun p=>(it.alive _ _ at2 b p).elim fun ob e=>⟨_,zm e⟩) ⟨_,zm d2⟩ ((zZ n2).elim fun ob e=>⟨_,zm e⟩)
       have pl1:∀ b,Pf P D Cn b->o1 b=some (bL,[]):=fun b p=>by
        obtain ⟨ob,e⟩:=al2 b p
        exact (ag b ob e).2.trans (plj b p)
       have kk3:∀ b ob,b≠D->look hb' b=some ob->look h3 b=some ob:=fun b ob nb e=>zb (fun ob'=>zg s3 b ob' nb) e
       have nD:∀ {b},¬ Pf P D Cn b->b≠D:=fun nb z=>nb (.inr (.inl z))
       have k13:∀ b ob,¬ Pf P D Cn b->look h₁ b=some ob->o1 b=o b/\look h3 b=some ob:=fun b ob nb e=>⟨(ag b ob (k12 b ob nb e).2).2.trans (k12 b ob nb e).1,kk3 b ob (nD nb) (ag b ob (k12 b ob nb e).2).1⟩
       have at3:At (j+1) h3:=it.frame _ _ _ at2 fun b ob p e=>kk3 b ob (fun z=>nID (z▸p)) (ag b ob e).1
       have n3':h3.Ns Cn m2:=yF n2 fun ob e=>kk3 Cn ob (Ne.symm nDC) (ag Cn ob e).1
       refine ⟨items.length-(j+1),by exact Wd lt,j+1,o1,h3,tkb,ys++[v'],n3,m2,done++[t2],rfl,rfl,lt,hbk r1 pl1 (fun b ob n e=>⟨ob,zg s3 b ob (nD n) e⟩) (fun b ob e=>zg s3 b ob (nD (nB b ob e)) (rb.base b ob e)) (fun b p=>UA p (it.alive _ _ at3 b) ⟨_,d3'⟩ (zZ n3')),fl1,pl1,k13,at3,d3',v2.snoc (fun b ob n e=>⟨kk3 b ob (nD (npl plj n)) (ag b ob e).1,(ag b ob e).2⟩) hX (rv.mono fun p b ob f1 f2=>⟨f1,kk3 b ob (nD (npl pl1 (KS hX f1))) f2⟩),n3',by rw [length_append];exact Nat.add_le_add hdl (Nat.le_refl _),?_⟩
       ·have e:((V (items.drop (j+1))).bind fun a=>(Ex.ok (t2::a)).bind fun rs=>Ex.ok (done++rs))=(V (items.drop (j+1))).bind fun rs=>.ok ((done++[t2])++rs):=by
         clear nDC hbk k12 h3 v' hb' tkb rb gb hv o1 r1 fl1 k1 rv ag db s3 n3 d3 d3' al2 pl1 kk3 nD k13 at3 n3';cases V (items.drop (j+1)) with
         |ok rs=>show Ex.ok (done++t2::rs)=_;rw [List.append_cons];rfl
         | _=>rfl
        rw [<- e];exact Pj
    |false =>
     rw [if_neg (by simp)]
     have Pj:vy X S f o s D Cn R ((V (items.drop (j+1))).bind fun rs=>.ok (done++rs)):=Pj
     exact ⟨items.length-(j+1),by exact Wd lt,j+1,o',ha,tka,ys,nn,m2,done,rfl,rfl,lt,ra,flj,plj,k1a,it.frame _ _ _ at2 fun b ob _ e=>ga b ob e,zx (ga D _ (zV d2 zj)) zj,v2.keep (fun b ob _ e=>ga b ob e) hX,yF n2 fun ob e=>ga Cn ob e,le_succ_of_le hdl,Pj⟩
  ·rw [List.drop_eq_nil_of_le (le_of_not_lt lt)] at Pj
   have Pj:vy X S f o s D Cn R (.ok (done++[])):=Pj
   rw [append_nil] at Pj
   refine it.done _ _ _ (le_antisymm lj (le_of_not_lt lt)▸atj) (src _ fun b ob n e=>(kj b ob n e).2) fun h2 tk2 k2=>?_
   have kk:∀ b ob,¬ P b->look hj b=some ob->look h2 b=some ob:=fun b ob nb e=>zb (fun ob'=>k2 b ob' nb) e
   have gr:∀ b ob,look s.heap b=some ob->o' b=o b/\look h2 b=some ob:=fun b ob e=>⟨(grow kj b ob e).1,kk b ob (fun p=>nPf e (.inl p)) (grow kj b ob e).2⟩
   have kb:∀ b ob,S.B.get? b=some ob->h2.get? b=some ob:=fun b ob e=>k2 b ob (fun p=>nB b ob e (.inl p)) (rj.base b ob e)
   exact Pj o' h2 tk2 ys nn m ⟨kb,fun a n=>⟨(cx.rel.own a n).1,let ⟨_,e⟩:=(cx.rel.own a n).2;let ⟨o2,z,_⟩:=zp (gr a _ (zm e)).2;⟨o2,z⟩⟩⟩ (fun a n nb=>⟨(rj.own a n).1,(rj.own a n).2.imp fun ob e=>k2 a ob (fun p=>npl plj nb (.inl p)) e⟩) flj (fun b ob e=>(gr b ob e).1) (plj D (.inr (.inl rfl))) (plj Cn (.inr (.inr rfl))) (fun b ob e=>(gr b ob e).2) (k2 D _ nID dj)
    (vj.keep (fun b ob n e=>kk b ob (fun p=>npl plj n (.inl p)) e) hX) (yF nj fun ob e=>kk Cn ob nIC e)
 ·by_cases p:Pf P D Cn a
  ·refine ⟨(fr a p).2,?_⟩
   exact UA p (it.alive _ _ at₁ a) ⟨_,d₁⟩ (zZ n₁)
  ·exact r₁.own a fun z=>n ((kD p).trans z)
 ·rw [List.drop_zero]
  show vy X S f o s D Cn R ((V items).bind fun rs=>.ok ([]++rs))
  have e:((V items).bind fun rs=>.ok ([]++rs))=V items:=by clear Bnd Src e1 iter tgt ifs pos tk₁ m₁ k₁ hX ok cx HE HT it src hvar fr nID nIC nDC hl r₁ g₁ at₁ d₁ n₁ nPf grow nB hbk npl;cases V items <;> rfl
  rw [e];exact Pp
end
theorem qf.cut {L:Lbs} {P:Addr->Prop} {o o':Own} {h base h' h'':Heap} (x:qf L o o' h base h') (hP:∀ b,P b->h.get? b=none) (k:∀ b ob,¬ P b->h'.get? b=some ob->h''.get? b=some ob):qf L o o' h (Mine.cut P base) h'' :=
 have np:∀ {b ob},look h b=some ob->¬ P b:=fun e p=>by refine ob12 (zp e) fun _ z _=>?_;rw [hP _ p] at z;clear hP p;exact no1 z
 ⟨fun b ob f e=>⟨zb (fun o2=>k b o2 (np e)) (x.step b ob f e).1,(x.step b ob f e).2⟩,fun b ob f e nd=>(congrArg (Option.map nrm) (qT (np e))).trans (x.based b ob f e nd)⟩
theorem wx {P:Addr->Prop} {h:Heap} (b:Addr) (e:h.get? b=none):(cut P h).get? b=none:=by
 by_cases p:P b
 ·exact ww p
 ·rw [qT p];exact e
theorem ZI {P:Addr->Prop} {h h' h'':Heap} (s:h.StaysIn h') (k:∀ b o,¬ P b->h'.get? b=some o->h''.get? b=some o):(cut P h).StaysIn h'':=fun b o e=>by
 by_cases p:P b
 ·exact no1 (Eq.trans (Eq.symm (ww p)) e)
 ·rw [qT p] at e;exact k b o p (s b o e)
section
variable {S:Su} {f:Fr} {ρ:VS} {o:Own} {s:Shared} {inner:Scope} {sm':List (Str × Nat)} {I:Addr}
noncomputable def z0 (X:Option Nat) (S:Su) (f:Fr) (o:Own) (s:Shared) (use:Option (Value->Sem Unit)) (Q:Value->Shared->Prop):Ex (List Tr)->Prop
 | .ok ts=>∀ D Cn o' h' tk ys k m,HB S.B o h'->(∀ a,o' a≠none->o' a≠some (bL,[])->S.B.get? a=none/\∃ ob,h'.get? a=some ob)->yH o'->(∀ b ob,look s.heap b=some ob->o' b=o b)->o' D=some (bL,[])->o' Cn=some (bL,[])->zA s.heap h'->D≠Cn->s.heap.get? D=none->s.heap.get? Cn=none->h'.get? D=some (zf ys k)->jw S X o' h' ts ys->h'.Ns Cn m ->
   compPost S.M f.A f.X.E use Q (.ref D) Cn (.ok .next) (up s h' tk)
 | .exc c=>PX S.B f.X (fun o' _=>o'=o) KW o s c
 | .stuck=>False
theorem W4 {c:Nat} {h' base:Heap} {tk:Nat} {e Cn:Addr} {m:Str->Option Value} {use:Option (Value->Sem Unit)} {Q:Value->Shared->Prop} {acc:Value} (p:PX S.B f.X (fun o' _=>o'=o) KW o s c) (cx:Cx S f ρ o s.heap)
  (r:HBx S.B o base) (xc:yz S.B c) (st:qf KW o o s.heap base h') (b1:base.StaysIn h') (b2:base.get? e=none) (b3:h'.FunFrames base f.X.l) (b4:Trc h' base e (.ref (yV S.B c))) (ns:h'.Ns Cn m) (sC:s.heap.get? Cn=none) :
  compPost S.M f.A f.X.E use Q acc Cn (.error (.ref e)) (up s h' tk):=by
 show ∃ m,h'.Ns Cn m/\∀ h2,Heap.SameBut Cn h' h2->∀ cenv:Env,cenv.locals=Cn->wpAny S.M f.A (passOn "comprehension.variables-let-go" (.ref e) cenv:Sem Value) (fun _ _=>False) f.X.E (up s h2 tk)
 refine ⟨m,ns,fun h2 sb cenv _=>?_⟩
 refine zc b4 fun wz1x0 wz1=>?_;refine ob78 wz1x0 fun a0 fl oe vs T oT ts t1 t2 t3 t4 t5 t6 t7 wz0=>?_;obtain ⟨t8,t9⟩:=wz0;refine ob23 wz1 fun oe' vs' c1 c2 c3=>?_
 refine ob33 ns fun oC es ep eC dC _=>?_
 have k:∀ b ob,¬ b=Cn->h'.get? b=some ob->h2.get? b=some ob:=zg sb
 have ne:¬ e=Cn:=fun z=>by rw [z,eC] at t1;clear use acc b4 ns sb wz1x0 wz1;obtain rfl:=sj t1;rw [dC] at t3;cases t3
 have nT:¬ T=Cn:=fun z=>by rw [z,eC] at t7;clear use acc b4 ns sb wz1x0 wz1 eC;obtain rfl:=sj t7;rw [dC] at t8;clear dC;cases t8
 have k1:(cut (·=Cn) base).StaysIn h2:=ZI b1 k
 have k2:h2.FunFrames (cut (·=Cn) base) f.X.l:=kL (fun b=>wx b) (wh b3 fun e hf L ob hL eo=>k L ob (fun z=>by
  refine zc (cx.fok e hf) fun _ wz3=>?_;refine ob14 wz3 fun L' h1 _ _ wz2=>?_;obtain ⟨m',h5⟩:=wz2
  rw [hL] at h1;clear use acc b1 b3 b4 ns sb wz1x0 wz1 oC ep eC dC hf hL wz3;obtain rfl:=sj h1
  refine ob11 (zZ h5) fun o' e'=>?_
  rw [z,sC] at e';clear m' h5;exact no1 e') eo)
 have k3:Trc h2 (cut (·=Cn) base) e (.ref (yV S.B c)):=⟨⟨a0,fl,oe,vs,T,oT,ts,k e oe ne t1,t2,t3,t4,wx T t5,t6,k T oT nT t7,t8,t9⟩,oe',vs',k e oe' ne c1,c2,c3⟩
 unfold passOn
 refine wpAny_bind (wpAny_field (s:=up s h2 tk) (k e oe ne t1) t3 t4 ?_)
 rw [if_neg (by simp)]
 refine wpAny_bind (xL (s:=up s h2 tk) k1 k2 k3 fun h3 n1 n2 n3 n4=>wpAny_throw ?_)
 have nB:∀ b ob,S.B.get? b=some ob->¬ b=Cn:=fun b ob e z=>by rw [z,cx.rel.freeB sC] at e;clear use acc b1 b3 b4 ns sb wz1x0 wz1 a0 fl oe vs oT ts t1 t2 t3 t4 t5 t6 t7 t8 t9 oe' vs' c1 c2 c3 oC ep eC dC ne nT k2 k3;exact no1 e
 refine p o h3 tk e _ ⟨fun b ob e=>(qT (P:=(·=Cn)) (nB b ob e)).trans (r.base b ob e),fun a n=>⟨(r.own a n).1,fun nf=>((r.own a n).2 nf).imp fun ob e=>(qT (P:=(·=Cn)) fun z=>?_).trans e⟩⟩ xc rfl ((st.cut (P:=fun b=>b=Cn) (fun b z=>z▸sC) k).hop k1 n1 n4) ⟨n1,wx e b2,n2,.inr n3⟩
 rw [show a=Cn from z,cx.rel.free sC] at n;exact n rfl
theorem wV {X:Option Nat} {α:Type} {items:List α} {up1:α->VS} {Bnd:α->(Str->Option Value)->Prop} {P:Addr->Prop} {Src:Heap->Prop} {At:Nat->Heap->Prop} {elt c:za} {e1 iter tgt:Expr} {ifs:List Expr} {pos:Pos} {h₁:Heap} {tk₁:Nat} {use:Option (Value->Sem Unit)} {Q:Value->Shared->Prop}
  (hX:XOk X) (ok:vL inner S.sc) (cx:Cx S f ρ o s.heap) (HE:SEl X (S.at (zY inner S.sc) sm') elt e1) (HT:vK (S.at (zY inner S.sc) sm') c ifs)
  (r₁:HB S.B o h₁) (g₁:zA s.heap h₁) (fr:∀ b,P b->s.heap.get? b=none) (fI:∀ b,P b->∃ ob,h₁.get? b=some ob) (at₁:At 0 h₁) (hl:items.length<=lim)
  (it:∀ Cn,(∀ b,P b->b≠Cn)->WS S.M f.A items I P Src At tgt (zw f.env inner Cn) Bnd)
  (src:∀ D Cn h',h₁.get? D=none->h₁.get? Cn=none->(∀ b ob,¬ Pf P D Cn b->look h₁ b=some ob->look h' b=some ob)->Src h')
  (hvar:∀ D Cn a m h o',h₁.get? D=none->h₁.get? Cn=none->a∈items->Bnd a m->(∀ b ob,¬ Pf P D Cn b->look h₁ b=some ob->o' b=o b/\look h b=some ob)->Cx S f ρ o' h->h.Ns Cn m->Z3 S (zw f.env inner Cn) sm' (up1 a) o' h)
  (again:∀ (s:Shared) (Q:Value->Shared->Prop) (E:Value->Shared->Prop),At 0 s.heap->Q (.ref I) s->wpAny S.M f.A (pyIter (.ref I)) Q E s)
  (K:z0 X S f o s use Q (yl (S.c elt) (fun a=>yW (S.E c) (S.E elt) (up1 a)) items)) :
  wpAny S.M f.A (PySem.newList []) (fun acc s₃=>wpAny S.M f.A (newFunctionEnv inner f.env.globals (uP f.env inner.names []) [] f.env.qual none .none (some f.env)) (fun cenv s₄ =>
   codeAny S.M f.A (.compStart (.ListComp e1 [⟨tgt,iter,ifs,0⟩] inner pos) 0 (.ref I) acc { cenv with scope:=relabel inner f.env }) (compPost S.M f.A f.X.E use Q acc cenv.locals) s₄) f.X.E s₃) f.X.E (up s h₁ tk₁):=by
 refine wpAny_newObj_type (wpAny_newFunctionEnv (s:=up s (h₁.push _) tk₁) ok.nocell (by intro y hy;simp at hy) (fun h₂ hns₂ hsb₂=>?_) ok.kind)
 dsimp only at hns₂ hsb₂ ⊢
 generalize hH2:h₁.push { cls:=.type "list",dict:=none,data:=.seq ([]:List Value).toArray }=H2 at hns₂ hsb₂ ⊢
 have hC:H2.objs.size=h₁.objs.size+1:=by rw [<- hH2,Heap.size_push]
 have hDC:h₁.objs.size≠H2.objs.size:=by rw [hC];exact ne_of_lt (lt_succ_self _)
 have old:∀ b ob,h₁.get? b=some ob->h₂.get? b=some ob:=fun b ob e=>hsb₂.extBut b ob (by rw [hC];exact ne_of_lt (lt_succ_of_lt (Heap.lt_size e))) (Heap.get?_push_of_some _ (hH2▸Heap.get?_push_of_some _ e))
 have hacc:h₂.get? h₁.objs.size=some (zf [] 0):=hsb₂.extBut _ _ hDC (Heap.get?_push_of_some _ (hH2▸Heap.get?_push_size _ rfl))
 have hnoneC:h₁.get? H2.objs.size=none:=by
  clear hsb₂;cases e:h₁.get? H2.objs.size with
  |none=>rfl
  |some o'=>exact absurd (Heap.lt_size e) (by rw [hC];exact Nat.not_lt.mpr (le_succ _))
 have eD:=zH h₁
 have gr:zA h₁ h₂:=fun b _ e=>zb (old b) e
 have frs:∀ b,Pf P h₁.objs.size H2.objs.size b->s.heap.get? b=none/\S.B.get? b=none:=fun b q=>by
  have z:s.heap.get? b=none:=by
   clear hsb₂ hC;rcases q with q | rfl | rfl
   ·exact fr b q
   ·exact qb g₁ eD
   ·exact qb g₁ hnoneC
  exact ⟨z,cx.rel.freeB z⟩
 have nP:∀ b,h₁.get? b=none->¬ P b:=fun b e q=>by refine ob11 (fI b q) fun ob eo=>?_;rw [e] at eo;clear fr fI hsb₂ hC;exact no1 eo
 have IT:=it H2.objs.size fun b q z=>nP _ hnoneC (z▸q)
 have at₂:At 0 h₂:=IT.frame _ _ _ at₁ fun b ob _ e=>gr b ob e
 have loop:codeAny S.M f.A (.compLoop (.ListComp e1 [⟨tgt,iter,ifs,0⟩] inner pos) 0 (.ref I) (.ref h₁.objs.size) (zw f.env inner H2.objs.size))
   (compPost S.M f.A f.X.E use Q (.ref h₁.objs.size) H2.objs.size) (up s h₂ (tk₁+([]:List (Str × Value)).length)):=by
  refine Xs hX ok cx HE HT IT (fun h' k=>src _ _ h' eD hnoneC fun b ob nb e=>k b ob nb (gr b ob e)) (fun a m h o' ha bnd k cx' hn=>hvar _ _ a m h o' eD hnoneC ha bnd (fun b ob nb e=>k b ob nb (gr b ob e)) cx' hn) frs (nP _ eD) (nP _ hnoneC) hDC hl (r₁.grow old) (fun b ob e=>gr b ob (g₁ b ob e)) at₂ hacc hns₂ ?_
  revert K
  clear Bnd Src e1 iter tgt ifs pos tk₁ hX HE HT r₁ g₁ fr fI at₁ hl it src hvar hns₂ hsb₂ hC old hacc hnoneC eD gr nP IT;cases yl (S.c elt) (fun a=>yW (S.E c) (S.E elt) (up1 a)) items with
  |stuck=>exact fun K=>K
  |exc c=>exact fun K h' tk e base m r xc st b1 b2 b3 b4 ns=>W4 K cx r xc st b1 b2 b3 b4 ns (frs _ (.inr (.inr rfl))).1
  |ok ts=>exact fun K o' h' tk ys k m q1 q2 q3 q4 q5 q6 q7 q8 q9 q10=>(show z0 X S f o s use Q (.ok ts) from K) _ _ o' h' tk ys k m q1 q2 q3 q4 q5 q6 q7 hDC (frs _ (.inr (.inl rfl))).1 (frs _ (.inr (.inr rfl))).1 q8 q9 q10
 exact codeAny_compStart_list loop (again _ _ _ at₂ loop)
end
section
variable {S:Su} {f:Fr} {ρ:VS} {o:Own} {s:Shared} {inner:Scope} {sm':List (Str × Nat)} {I Cn:Addr} {x:Str} {i:Nat}
noncomputable def AD (S:Su) (o:Own) (h0:Heap) (c1:Sh) (x:Str) (t:Tr) (m:Str->Option Value):Prop:=∃ v,m x=some v/\Rd S.B h0 (cS o c1) t v
theorem Xf {ts:List Tr} {It:Nat->Value->Prop} {Ad:Addr->Prop} {Src:Heap->Prop} {At:Nat->Heap->Prop} {h0:Heap} {c1:Sh} {px:Pos} (ok:JG inner S.sc S.sm x i) (cx:Cx S f ρ o s.heap) (it:XI S.M ts.length It Ad Src I At) (nIC:I≠Cn)
  (rd:∀ j t v,ts[j]?=some t->It j v->Rd S.B h0 (cS o c1) t v):WS S.M f.A ts I (fun b=>b=I) Src At (.Name x px) (zw f.env inner Cn) (AD S o h0 c1 x) where
 frame:=fun i h h' q k=>it.frame i h h' q fun ob e=>k I ob rfl e
 alive:=fun i h q b e=>let ⟨ob,eo⟩:=it.alive i h q;⟨ob,e▸eo⟩
 item:=fun j a s m Q E hj hat hsrc hns hQ=>it.item j f.A s _ E (List.getElem?_eq_some_iff.mp hj).1 hat hsrc fun v h1 tk1 hv at1 k1=>by
  refine ⟨v,rfl,wpAny_of_eq (a:=()) rfl ?_⟩
  have n1:h1.Ns Cn m:=jv hns fun ob e=>k1 Cn ob (Ne.symm nIC) e
  refine wpAny_bind (wpAny_standAt (wpAny_bindName (wpAny_storeName_local (s:=up s h1 tk1) (yO cx.scope ok.var) n1 (fun h2 n2 s2=>?_) (by show (inner.kind==.class||(inner.kind==.module&&_))=false;rw [ok.sco.kind];rfl))))
  exact hQ h2 _ _ (it.frame _ _ _ at1 fun ob e=>zb (fun ob=>zg s2 I ob nIC) e) n2 ⟨v,if_pos rfl,rd j a v hj hv⟩ fun b ob nb nc e=>zg s2 b ob nc (k1 b ob nb e)
 done:=fun s Q E hat hsrc hQ=>it.done f.A s Q E cx.ok.handled hat hsrc fun h' tk k=>hQ h' tk k
noncomputable def SC (X:Option Nat) (S:Su) (res:VS->Ex (List Tr)) (e1 tgt iter:Expr) (ifs:List Expr) (inner:Scope):Prop :=
 ∀ {f:Fr} {ρ:VS} {o:Own} {s:Shared} {use:Option (Value->Sem Unit)} {Q:Value->Shared->Prop} {pos cpos:Pos},Cx S f ρ o s.heap->z0 X S f o s use Q (res ρ) ->
  wpAny S.M f.A (comprehension (.ListComp e1 [⟨tgt,iter,ifs,0⟩] inner pos) inner f.env cpos (PySem.newList []) false (eval iter f.env) use) Q f.X.E s
theorem yC {h h':Heap} {b a:Addr} {ob:Obj} (e:look h b=some ob) (g:zA h h') (n:h'.get? a=none):b≠a:=fun z=>by
 refine ob12 (zp (g b ob e)) fun _ y _=>?_;rw [z,n] at y;exact no1 y
theorem Ut {X:Option Nat} {elt c it:za} {e1 iter:Expr} {ifs:List Expr} {px:Pos} (hX:XOk X) (ok:JG inner S.sc S.sm x i) (cov:(S.c it).cov (S.g.sh.getD i .i)=true) (HI:SI S it iter) (HE:SEl X (S.at (zY inner S.sc) ((x,i)::S.sm)) elt e1)
  (HT:vK (S.at (zY inner S.sc) ((x,i)::S.sm)) c ifs):SC X S (fun ρ=>((zK S.G S.g.sh S.C it).I ρ).bind fun ts=>yl (S.c elt) (fun t=>yW (S.E c) (S.E elt) (ρ.set i (some t))) ts) e1 (.Name x px) iter ifs inner:=fun {f ρ o s use Q pos cpos} cx p=>by
 have p:z0 X S f o s use Q (((zK S.G S.g.sh S.C it).I ρ).bind fun ts=>yl (S.c elt) (fun t=>yW (S.E c) (S.E elt) (ρ.set i (some t))) ts):=p
 refine wpAny_comprehension_free (g:=⟨.Name x px,iter,ifs,0⟩) (gs:=[]) rfl (HI.1 f.env) (jC fun p hp q=>cx.frm.has p.1 (by rw [cx.kind];exact ok.sco.free p hp q)) ok.sco.kind ok.sco.locs (HI.2 cx ?_)
 revert p;cases (zK S.G S.g.sh S.C it).I ρ with
 |exc d=>intro p;exact p
 |stuck=>intro p;exact p
 |ok ts =>
  intro p
  intro It Ad Src I At h0 h₁ tk₁ r₁ ga gb i0 itr at₁ src₁ had rd hl
  have alv:∀ b,Ad b->∀ a,h₁.get? a=none->b≠a:=fun b ad a n z=>by refine ob11 (itr.live h₁ b src₁ ad) fun _ y=>?_;rw [z,n] at y;exact no1 y
  refine wV (P:=fun b=>b=I) (up1:=fun t=>ρ.set i (some t)) (Bnd:=AD S o h0 (S.c it) x) hX ok.sco cx HE HT r₁ (fun b ob e=>gb b ob (ga b ob e)) (fun b z=>z▸qb ga i0) (fun b z=>z▸itr.alive _ _ at₁) at₁ hl (fun Cn hC=>Xf ok cx itr (hC I rfl) rd)
   (fun D Cn h' eD eC k=>itr.src h₁ h' src₁ fun b ob ad e=>k b ob (fun z=>?_) e) (fun D Cn t m h o' eD eC _ bnd k cx' hn=>?_) (fun s Q E at0 hQ=>itr.again 0 f.A s Q E at0 hQ) p
  ·rcases z with z | z | z
   ·exact (had b ad).1 z
   ·exact alv b ad D eD z
   ·exact alv b ad Cn eC z
  ·refine ob12 bnd fun v hm rv=>?_
   refine Xr ok cx' hn hm (Vp cov (rv.lab fun b ob e=>?_))
   have np:¬ Pf (fun b=>b=I) D Cn b:=fun z=>by
    rcases z with z | z | z
    ·exact yC e (fun _ _ e=>e) i0 z
    ·exact yC e gb eD z
    ·exact yC e gb eC z
   exact k b ob np (gb b ob e)
theorem Hv {m:za} {res:VS->Ex (List Tr)} {e1 tgt iter:Expr} {ifs:List Expr} {pos:Pos} (hE:∀ ρ,S.E m ρ=(res ρ).bind mkL) (H:SC none S res e1 tgt iter ifs inner):SR S m (.ListComp e1 [⟨tgt,iter,ifs,0⟩] inner pos):=fun {f ρ o s Q} cx p=>by
 rw [hE] at p
 rw [eval_ListComp]
 refine H cx ?_
 cases q2:res ρ with
 |exc c=>rw [q2] at p;exact p
 |stuck=>rw [q2] at p;exact p
 |ok ts =>
  rw [q2] at p
  refine zc (Po.ite (show Po S f o (RW S o s.heap) Q s (mkL ts) from p)) fun l p=>?_
  refine fun D Cn o' h' tk ys k m r _ _ ol oD' oC' g d3 d4 d5 d8 d9 d10=>⟨m,d10,fun h'' sb=>?_⟩
  have kk:∀ b ob,b≠Cn->look h' b=some ob->look h'' b=some ob:=fun b ob nb e=>zb (fun o'=>zg sb b o' nb) e
  refine p _ h'' tk ⟨fun b ob e=>zg sb b ob (fun z=>?_) (r.base b ob e),fun a n=>⟨(r.own a n).1,(r.own a n).2.imp fun ob e=>zg sb a ob (fun z=>?_) e⟩⟩ (fun b ob e=>kk b ob (yC e (fun _ _ e=>e) d5) (g b ob e)) ⟨D,ys,k,rfl,rfl,d4,cx.rel.free d4,zg sb D _ d3 d8,d9.1▸l,A2.of d9.1 fun j t v q1 q2=>(d9.2 j t v q1 q2).mono fun p b ob q e=>?_⟩
  ·rw [z,cx.rel.freeB d5] at e;exact no1 e
  ·rw [z,cx.rel.free d5] at n;exact n rfl
  ·have q:o' b=none:=q
   refine ⟨(kD (P:=fun b=>b=D) fun z=>by rw [show b=D from z,oD'] at q;exact no2 q).trans (Classical.byContradiction fun n=>?_),kk b ob (fun z=>by rw [z,oC'] at q;exact no2 q) e⟩
   refine zc (cx.rel.own b n) fun _ wz2=>?_;refine ob11 wz2 fun ob' e'=>?_
   exact n ((ol b _ (zm e')).symm.trans q)
theorem EB {elt it c:za} {y:Nat} (cov:(S.c it).cov (S.g.sh.getD y .i)=true) (ρ:VS):S.E (.comp elt (.loc y) it c) ρ=(((zK S.G S.g.sh S.C it).I ρ).bind fun ts=>yl (S.c elt) (fun t=>yW (S.E c) (S.E elt) (ρ.set y (some t))) ts).bind mkL:=by
 rw [Ex.bind_bind]
 show cond ((S.c it).cov (S.g.sh.getD y .i)) _ _=_
 rw [cov];rfl
end
section
variable {S:Su} {f:Fr} {ρ:VS} {o:Own} {s:Shared} {h:Heap} {inner:Scope} {I Cn D:Addr} {x y:Str} {i j:Nat} {g:yd} {F:Nat->Option zr} {mg mb:Str->Option Value}
theorem xv {prog:Program} {w:World} {A:Around} {E:Value->Shared->Prop} {env:Env} {px py tp:Pos} {k:Nat} {T:Addr} {a b:Value} {m:Str->Option Value} {Q:Unit->Shared->Prop} (hh:A.handled=none) (kx:env.kindOf x=some .local) (ky:env.kindOf y=some .local)
  (hp:(env.scope.kind==.class||(env.scope.kind==.module&&env.locals != env.globals))=false) (hT:s.heap.IsTuple T #[a,b]) (hn:s.heap.Ns env.locals m)
  (hQ:∀ h' tk,h'.Ns env.locals (fun z=>if z=y then some b else if z=x then some a else m z)->(∀ c o,c≠env.locals->s.heap.get? c=some o->h'.get? c=some o)->Q () { s with heap:=h',toks:=tk }) :
  wpAny (model prog w) A (assign (.Tuple [.Name x px,.Name y py] k tp) env (.ref T)) Q E s:=by
 refine wpAny_assign_Tuple hh hT rfl rfl fun h1 eb=>?_
 have k1:∀ b o,s.heap.get? b=some o->h1.get? b=some o:=fun b o e=>eb b o (ne_of_lt (Heap.lt_size e)) e
 show wpAny (model prog w) A (holding [b] (assign (.Name x px) env a) >>= fun _=>holding [] (assign (.Name y py) env b) >>= fun _=>pure ()) Q E { s with heap:=h1 }
 refine wpAny_bind (wpAny_holding (wpAny_bind (wpAny_standAt (wpAny_bindName (wpAny_storeName_local (s:={ s with heap:=h1 }) kx (jv hn fun o e=>k1 _ o e) (fun h2 n2 s2=>?_) hp)))))
 refine wpAny_bind (wpAny_holding (wpAny_bind (wpAny_standAt (wpAny_bindName (wpAny_storeName_local (s:={ s with heap:=h2,toks:=_ }) ky n2 (fun h3 n3 s3=>?_) hp)))))
 exact wpAny_pure (hQ h3 _ n3 fun c o nc e=>zg s3 c o nc (zg s2 c o nc (k1 c o e)))
structure vh (inner sc:Scope) (sm:List (Str × Nat)) (x y:Str) (i j:Nat):Prop where
 sco:vL inner sc
 varx:inner.names.lookup x=some .local
 vary:inner.names.lookup y=some .local
 only:∀ p∈inner.names,p.2=.local->p.1=x\/p.1=y\/sm.lookup p.1=none
 slot:∀ z k,sm.lookup z=some k->k≠i/\k≠j
 nij:i≠j
 nxy:x≠y
theorem Vs (ok:vh inner S.sc S.sm x y i j) (cx:Cx S f ρ o h) {m:Str->Option Value} (hn:h.Ns D m) {u v:Tr} {u' v':Value} (hx:m x=some u') (hu:Rd S.B h (cS o (S.g.sh.getD i .i)) u u') (hy:m y=some v') (hv:Rd S.B h (cS o (S.g.sh.getD j .i)) v v') :
  Z3 S (zw f.env inner D) ((x,i)::(y,j)::S.sm) ((ρ.set i (some u)).set j (some v)) o h:=by
 intro z k t hz hl he
 rw [lookup_cons] at hl
 by_cases ex:(z==x)=true
 ·rw [ex] at hl
  rw [beq_iff_eq] at ex;subst ex
  obtain rfl:=sj hl
  rw [getElem?_set_ne (Ne.symm ok.nij)] at he
  rw [xZ he]
  exact ⟨u',.inl ⟨yO cx.scope ok.varx,m,hn,hx⟩,hu⟩
 ·rw [show (z==x)=false by simpa using ex] at hl
  simp only [lookup_cons] at hl
  by_cases ey:(z==y)=true
  ·rw [ey] at hl
   rw [beq_iff_eq] at ey;clear u' hx hu;subst ey
   obtain rfl:=sj hl
   rw [xZ he]
   exact ⟨v',.inl ⟨yO cx.scope ok.vary,m,hn,hy⟩,hv⟩
  ·rw [show (z==y)=false by simpa using ey] at hl
   have sl:=ok.slot z k hl
   rw [getElem?_set_ne (Ne.symm sl.2),getElem?_set_ne (Ne.symm sl.1)] at he
   refine uM ok.sco cx (fun q=>?_) hz hl he
   clear cx m hn u v u' v' hx hu hy hv t hz he sl;rcases ok.only _ (zh q) rfl with q | q | q
   ·simp at q;clear ok;subst q;simp at ex
   ·simp at q;clear ok;subst q;simp at ey
   ·simp only at q;rw [q] at hl;clear ok q;exact no1 hl
noncomputable def Ti (S:Su) (o:Own) (h0:Heap) (c1 c2:Sh) (x y:Str) (p:Tr × Tr) (m:Str->Option Value):Prop:=∃ u v,m x=some u/\Rd S.B h0 (cS o c1) p.1 u/\m y=some v/\Rd S.B h0 (cS o c2) p.2 v
theorem TX {P:Addr->Prop} {h0:Heap} {c1 c2:Sh} (ok:vh inner S.sc S.sm x y i j) (v1:c1.cov (S.g.sh.getD i .i)=true) (v2:c2.cov (S.g.sh.getD j .i)=true) (hP:∀ b,P b->h0.get? b=none) {h₁:Heap} (gb:zA h0 h₁):∀ (D Cn:Addr) (p:Tr × Tr) (m:Str->Option Value) (h:Heap) (o':Own),h₁.get? D=none->h₁.get? Cn=none->Ti S o h0 c1 c2 x y p m->(∀ b ob,¬ Pf P D Cn b->look h₁ b=some ob->o' b=o b/\look h b=some ob)->Cx S f ρ o' h->h.Ns Cn m ->
  Z3 S (zw f.env inner Cn) ((x,i)::(y,j)::S.sm) ((ρ.set i (some p.1)).set j (some p.2)) o' h:=fun D Cn p m h o' eD eC bnd k cx hn=>by
 refine ob24 bnd fun u v e1 r1 e2 r2=>?_
 have np:∀ b ob,look h0 b=some ob->o' b=o b/\look h b=some ob:=fun b ob e=>by
  have np:¬ Pf P D Cn b:=fun z=>by
   clear bnd;rcases z with z | z | z
   ·exact yC e (fun _ _ e=>e) (hP b z) rfl
   ·exact yC e gb eD z
   ·exact yC e gb eC z
  exact k b ob np (gb b ob e)
 exact Vs ok cx hn e1 (Vp v1 (r1.lab np)) e2 (Vp v2 (r2.lab np))
theorem z0.step {X:Option Nat} {use:Option (Value->Sem Unit)} {Q:Value->Shared->Prop} {z:Ex (List Tr)} {h':Heap} {tk:Nat} (p:z0 X S f o s use Q z) (g:zA s.heap h'):z0 X S f o (up s h' tk) use Q z:=by
 cases z with
 |ok ts=>exact fun D Cn o' h2 tk2 ys k m r r' fl ol oD oC g2 d e1 e2=>p D Cn o' h2 tk2 ys k m r r' fl (fun b ob e=>ol b ob (g b ob e)) oD oC (fun b ob e=>g2 b ob (g b ob e)) d (qb g e1) (qb g e2)
 |exc c=>exact PX.step p (zA.step g)
 |stuck=>exact p
theorem z0.bind {X:Option Nat} {γ δ:Type} {W:Heap->γ->δ->Prop} {use:Option (Value->Sem Unit)} {Q:Value->Shared->Prop} {Q':δ->Shared->Prop} {r:Ex γ} {k:γ->Ex (List Tr)} (p:z0 X S f o s use Q (r.bind k))
  (n:∀ v v' h1 tk,HB S.B o h1->zA s.heap h1->W h1 v v'->z0 X S f o (up s h1 tk) use Q (k v)->Q' v' (up s h1 tk)):Po S f o W Q' s r:=by
 cases r with
 |ok v=>exact fun v' h1 tk r st hv=>n v v' h1 tk r st hv (z0.step (z:=k v) p st)
 |exc c=>exact p
 |stuck=>exact p
theorem z0.lst {X:Option Nat} {t:Tr} {use:Option (Value->Sem Unit)} {Q:Value->Shared->Prop} {k:List Tr->Ex (List Tr)} (p:z0 X S f o s use Q (vS t k)):∃ ts,t=.nd .lst ts/\z0 X S f o s use Q (k ts):=by
 cases t with
 |sc=>exact p.elim
 |nd l ts=>cases l with
  |lst=>exact ⟨ts,rfl,p⟩
  | _=>exact p.elim
theorem XZ {α:Type} {ys:List α} (e:ys.length=2):∃ u v,ys=[u,v]:=by
 cases ys with
 |nil=>exact no5 e
 |cons u q=>cases q with
  |nil=>cases e
  |cons v z=>exact ⟨u,v,by rw [length_eq_zero_iff.mp (Nat.succ.inj (Nat.succ.inj e))]⟩
theorem K0 {B h:Heap} {ts:List Tr}:∀ {vs:List Value} {ps:List (Tr × Tr)} {k:Nat} {p:Tr × Tr},A2 (Rd B h (imm o)) ts vs->jy ts=some ps->ps[k]?=some p->∃ a u v n,vs[k]?=some (.ref a)/\h.get? a=some (qq [u,v] n)/\Rd B h (imm o) p.1 u/\Rd B h (imm o) p.2 v:=by
 induction ts with
 |nil=>intro vs ps k p _ e q;obtain rfl:=sj e;exact no1 q
 |cons t ts ih =>
  intro vs ps k p ⟨w,ws,e0,r,rs⟩ e q
  refine ob12 (bind_eq_some_iff.mp e) fun p0 e1 e=>?_
  refine ob12 (map_eq_some_iff.mp e) fun ps' e2 e3=>?_
  clear e;subst e0 e3
  clear e;cases k with
  |succ k =>
   have z:=ih (k:=k) (p:=p) rs e2 q
   exact z
  |zero =>
   clear rs e2;cases q
   rw [X5 e1] at r
   refine ob25 r.node fun ad ys ez3x2 _ wz3x4 el es=>?_;clear r e1 ps';subst ez3x2;obtain ⟨_,n,g⟩:=wz3x4
   refine ob21 (XZ el) fun u v ez4x2=>?_;clear el;subst ez4x2
   exact ⟨ad,u,v,n,rfl,g,es 0 _ u rfl rfl,es 1 _ v rfl rfl⟩
theorem xV {ts:List Tr}:∀ {ps:List (Tr × Tr)},jy ts=some ps->ps.length=ts.length:=by
 induction ts with
 |nil=>intro ps e;obtain rfl:=sj e;rfl
 |cons t ts ih =>
  intro ps e
  refine ob12 (bind_eq_some_iff.mp e) fun p0 e1 e=>?_
  refine ob12 (map_eq_some_iff.mp e) fun ps' e2 e3=>?_
  clear e e1;subst e3
  exact congrArg (·+1) (ih e2)
theorem Yo {elt c a:za} {e1 iter:Expr} {ifs:List Expr} {px py tp:Pos} {k:Nat} (ok:vh inner S.sc S.sm x y i j) (ci:((S.c a).el .nil).isI=true) (si:(S.g.sh.getD i .i).isI=true) (sj:(S.g.sh.getD j .i).isI=true) (hset:∀ env x,foldedSetIterable iter env x=pure x) (ha:SE S a iter)
  (HE:SE (S.at (zY inner S.sc) ((x,i)::(y,j)::S.sm)) elt e1) (HT:vK (S.at (zY inner S.sc) ((x,i)::(y,j)::S.sm)) c ifs) :
  SC none S (fun ρ=>(S.E a ρ).bind fun t=>vS t fun ts=>(Ex.opt (jy ts)).bind fun ps=>yl (S.c elt) (fun p=>yW (S.E c) (S.E elt) ((ρ.set i (some p.1)).set j (some p.2))) ps) e1 (.Tuple [.Name x px,.Name y py] k tp) iter ifs inner:=fun {f ρ o s use Q pos cpos} cx p=>by
 have p:z0 none S f o s use Q ((S.E a ρ).bind fun t=>vS t fun ts=>(Ex.opt (jy ts)).bind fun ps=>yl (S.c elt) (fun p=>yW (S.E c) (S.E elt) ((ρ.set i (some p.1)).set j (some p.2))) ps):=p
 refine wpAny_comprehension_free (g:=⟨.Tuple [.Name x px,.Name y py] k tp,iter,ifs,0⟩) (gs:=[]) rfl (hset f.env) (jC fun p hp q=>cx.frm.has p.1 (by rw [cx.kind];exact ok.sco.free p hp q)) ok.sco.kind ok.sco.locs ?_
 refine ha cx (p.bind fun t v h1 tk r1 g1 hv q=>?_)
 refine ob12 q.lst fun ts ez7x1 q1=>?_;clear hset ha cpos;subst ez7x1
 cases hp:jy ts with
 |none=>rw [hp] at q1;exact q1.elim
 |some ps =>
  rw [hp] at q1
  refine ob25 hv.node fun al ys ez8x2 _ wz8x4 el es=>?_;clear hv;subst ez8x2;obtain ⟨lx,m1,gx⟩:=wz8x4
  have zi:∀ {c:Sh},c.isI=true->c=.i:=fun {c} e=>by clear iter px py tp pos;cases c <;> first | rfl | cases e
  have av:A2 (Rd S.B h1 (imm o)) ts ys:=A2.of el fun jj t v a b=>by
   have z:=(es jj t v a b).to fun _ _=>Kx (e:=.nil) fun k hc=>no3 hc
   rw [zi ci] at z;exact z
  have cx1:=cx.grow r1 g1
  refine wpAny_pyIter_list (s:=up s h1 tk) (zn gx) ?_
  have k2:=zt h1 { cls:=.type "list_iterator",dict:=none,data:=.fields #[.ref al,rawInt 0] }
  have gr:zA h1 (h1.push { cls:=.type "list_iterator",dict:=none,data:=.fields #[.ref al,rawInt 0] }):=fun b _ e=>zb (k2 b) e
  let Src:Heap->Prop:=fun h=>h.get? al=some (zf ys m1)/\∀ (k:Nat) a,ys[k]?=some (.ref a)->∀ ob,look h1 a=some ob->look h a=some ob
  have ne:∀ b ob,look h1 b=some ob->b≠h1.objs.size:=fun b ob e=>yC e (fun _ _ e=>e) (zH _)
  refine wV (X:=none) (s:=up s h1 tk) (I:=h1.objs.size) (P:=fun b=>b=h1.objs.size) (Src:=Src) (up1:=fun p=>(ρ.set i (some p.1)).set j (some p.2)) (Bnd:=Ti S o h1 .i .i x y) (items:=ps) (At:=fun i h=>h.IsListIter h1.objs.size al i) (fun _ e=>nomatch e) ok.sco cx1 (SE.el HE) HT (r1.grow k2) gr (fun b z=>z▸zH _) (fun b z=>z▸⟨_,Heap.get?_push_size _ rfl⟩)
   ⟨_,Heap.get?_push_size _ rfl,rfl,rfl⟩ (by rw [xV hp,<- el];exact lx) (fun Cn hC=>?_) (fun D Cn h' eD eC kk=>?_) (fun D Cn p m h o' eD eC _=>TX (P:=fun b=>b=h1.objs.size) ok (by rw [zi si];rfl) (by rw [zi sj];rfl) (fun b z=>z▸zH _) gr D Cn p m h o' eD eC) (fun s Q E at0 hQ=>wpAny_pyIter_listiter at0 hQ) q1
  ·exact {
    frame:=fun i h h' q k=>let ⟨ob,e,c,d⟩:=q;⟨ob,kH (fun ob=>k _ ob rfl) e d,c,d⟩
    alive:=fun i h q b e=>let ⟨ob,eo,_⟩:=q;⟨ob,e▸eo⟩
    item:=fun kk p s' m Q E hk hat hsrc hns hQ=>by
     refine zc hsrc fun g gt=>?_
     refine ob44 (K0 av hp hk) fun a' u v n e1 e2 r1 r2=>?_
     have gt':s'.heap.get? a'=some (qq [u,v] n):=zx (gt kk a' e1 _ (zV e2 zj)) zj
     refine wpAny_pyNext_list_item hat (zn g) (getElem?_toArray.trans e1) fun h' x1 x2=>⟨_,rfl,wpAny_letOwnedTupleGo_listiter x1 ?_⟩
     have nI:=zg x2
     have cI:Cn≠h1.objs.size:=Ne.symm (hC _ rfl)
     refine xv (s:={ s' with heap:=h' }) cx.ok.handled (yO cx.scope ok.varx) (yO cx.scope ok.vary) (by show (inner.kind==.class||(inner.kind==.module&&_))=false;rw [ok.sco.kind];rfl) (yN (nI _ _ (ne _ _ (zm e2)) gt')) (jv hns fun ob e=>nI _ ob cI e) fun h2 tk2 n2 k2=>?_
     refine hQ h2 tk2 _ ?_ n2 ⟨u,v,(if_neg ok.nxy).trans (if_pos rfl),r1,if_pos rfl,r2⟩ fun b ob nb nc e=>k2 b ob nc (nI b ob nb e)
     refine ob13 x1 fun ob eo c d=>?_
     exact ⟨ob,k2 _ ob (Ne.symm cI) eo,c,d⟩
    done:=fun s' Q E hat hsrc hQ=>wpAny_pyNext_list_end cx.ok.handled hat (zn hsrc.1) (by rw [xV hp,<- el];exact getElem?_toArray.trans (getElem?_eq_none (Nat.le_refl _))) fun h' x1=>hQ h' s'.toks x1 }
  ·have kk':∀ b ob,look h1 b=some ob->look h' b=some ob:=fun b ob e=>kk b ob (fun z=>by
    rcases z with z | z | z
    ·exact ne b ob e z
    ·exact yC e gr eD z
    ·exact yC e gr eC z) (gr b ob e)
   exact ⟨zx (kk' al _ (zV gx zj)) zj,fun _ _ _ ob e=>kk' _ ob e⟩
end
theorem VD:∀ {xs ys:List Tr} {k:Nat} {p:Tr × Tr},(uZ xs ys)[k]?=some p->xs[k]?=some p.1/\ys[k]?=some p.2
 | [],ys,k,p,e=>nomatch e
 |x::xs,[],k,p,e=>nomatch e
 |x::xs,y::ys,0,p,e=>by obtain rfl:=sj e;exact ⟨rfl,rfl⟩
 |x::xs,y::ys,k+1,p,e=>VD (xs:=xs) (ys:=ys) (k:=k) e
theorem QR:∀ {xs ys:List Tr},(uZ xs ys).length=min xs.length ys.length
 | [],ys=>(Nat.zero_min _).symm
 |x::xs,[]=>(Nat.min_zero _).symm
 |x::xs,y::ys=>(congrArg (·+1) (QR (xs:=xs) (ys:=ys))).trans (Nat.succ_min_succ _ _).symm
noncomputable def T8 (z TI TO i1 i2 l1 l2:Addr) (k:Nat) (h:Heap):Prop:=IsZip h z TI TO .none/\IsPair h TI (.ref i1) (.ref i2)/\(∃ a b,IsPair h TO a b)/\h.IsListIter i1 l1 k/\h.IsListIter i2 l2 k
section
variable {S:Su} {f:Fr} {ρ:VS} {o:Own} {s:Shared} {h:Heap} {inner:Scope} {I Cn D:Addr} {x y:Str} {i j:Nat} {g:yd} {F:Nat->Option zr} {mg mb:Str->Option Value}
theorem Xe {xs ys:List Tr} {ys1 ys2:List Value} {m1 m2:Nat} {h0:Heap} {c1 c2:Sh} {a1 a2 z TI TO i1 i2:Addr} {px py tp:Pos} {k:Nat} (cx:Cx S f ρ o s.heap) (ok:vh inner S.sc S.sm x y i j) (D:ZipApart z TI TO i1 i2 a1 a2)
  (l1:ys1.length=xs.length) (l2:ys2.length=ys.length) (r1:∀ (j:Nat) t v,xs[j]?=some t->ys1[j]?=some v->Rd S.B h0 (cS o c1) t v) (r2:∀ (j:Nat) t v,ys[j]?=some t->ys2[j]?=some v->Rd S.B h0 (cS o c2) t v) (hC:∀ b,(b=z\/b=TI\/b=TO\/b=i1\/b=i2)->b≠Cn) :
  WS S.M f.A (uZ xs ys) z (fun b=>b=z\/b=TI\/b=TO\/b=i1\/b=i2) (fun h=>h.get? a1=some (zf ys1 m1)/\h.get? a2=some (zf ys2 m2)) (T8 z TI TO i1 i2 a1 a2) (.Tuple [.Name x px,.Name y py] k tp) (zw f.env inner Cn) (Ti S o h0 c1 c2 x y) where
 frame:=fun k h h' q kp=>by
  refine YX q fun q1 q2 wz0x2 wz0x3 wz0=>?_;clear q;obtain ⟨a,b,q3⟩:=wz0x2;obtain ⟨o4,q4,c4,d4⟩:=wz0x3;obtain ⟨o5,q5,c5,d5⟩:=wz0
  have kk:∀ b ob,(b=z\/b=TI\/b=TO\/b=i1\/b=i2)->kT ob->h.get? b=some ob->h'.get? b=some ob:=fun b ob pb nd e=>zx (kp b _ pb (zV e nd)) nd
  exact ⟨kk _ _ (.inl rfl) (by intro _ _ q;clear m1 m2 px py tp kp;cases q) q1,kk _ _ (.inr (.inl rfl)) (by intro _ _ q;clear m1 m2 px py tp kp;cases q) q2,⟨a,b,kk _ _ (.inr (.inr (.inl rfl))) (by intro _ _ q;clear m1 m2 px py tp kp;cases q) q3⟩,
   ⟨o4,kk _ _ (.inr (.inr (.inr (.inl rfl)))) (by intro _ _ q;rw [d4] at q;clear m1 m2 px py tp kp;cases q) q4,c4,d4⟩,⟨o5,kk _ _ (.inr (.inr (.inr (.inr rfl)))) (by intro _ _ q;rw [d5] at q;clear m1 m2 px py tp kp c4 d4 kk;cases q) q5,c5,d5⟩⟩
 alive:=fun k h q b e=>by
  refine YX q fun q1 q2 wz1x2 wz1x3 wz1=>?_;clear q;obtain ⟨a,b,q3⟩:=wz1x2;obtain ⟨o4,q4,_⟩:=wz1x3;obtain ⟨o5,q5,_⟩:=wz1
  clear m1 m2 px py tp;rcases e with rfl | rfl | rfl | rfl | rfl
  ·exact ⟨_,q1⟩
  ·exact ⟨_,q2⟩
  ·exact ⟨_,q3⟩
  ·exact ⟨_,q4⟩
  ·exact ⟨_,q5⟩
 item:=fun k p s m Q E hp hat hsrc hns hQ=>by
  refine YX hat fun q1 q2 wz2x2 q4 q5=>?_;clear hat;obtain ⟨a,b,q3⟩:=wz2x2
  refine zc hsrc fun g1 g2=>?_;clear hsrc
  refine zc (VD hp) fun p1 p2=>?_
  obtain ⟨u',f1⟩:∃ u,ys1[k]?=some u:=⟨_,getElem?_eq_getElem (by rw [l1];exact (List.getElem?_eq_some_iff.mp p1).1)⟩
  obtain ⟨v',f2⟩:∃ u,ys2[k]?=some u:=⟨_,getElem?_eq_getElem (by rw [l2];exact (List.getElem?_eq_some_iff.mp p2).1)⟩
  refine wpAny_pyNext_zip_item D q1 q2 q3 q4 q5 (zn g1) (zn g2) (getElem?_toArray.trans f1) (getElem?_toArray.trans f2) fun h1 z1 z2 z3 z4 z5 z6 z7=>⟨_,rfl,wpAny_letOwnedTupleGo_zip (s:={ s with heap:=h1 }) z1 fun h2 w1 w2=>?_⟩
  have nz:∀ b ob,b≠z->h1.get? b=some ob->h2.get? b=some ob:=zg w2
  have lz:=Heap.lt_size q1
  have Tz:s.heap.objs.size≠z:=fun q=>by rw [q] at lz;exact lt_irrefl _ lz
  have n0:h1.Ns (zw f.env inner Cn).locals m:=jv hns fun ob e=>z7 _ ob (Ne.symm (hC z (.inl rfl))) (Ne.symm (hC TO (.inr (.inr (.inl rfl))))) (Ne.symm (hC i1 (.inr (.inr (.inr (.inl rfl)))))) (Ne.symm (hC i2 (.inr (.inr (.inr (.inr rfl)))))) e
  refine xv (s:={ s with heap:=h2 }) cx.ok.handled (yO cx.scope ok.varx) (yO cx.scope ok.vary) (by show (inner.kind==.class||(inner.kind==.module&&_))=false;rw [ok.sco.kind];rfl) (a:=u') (b:=v') ⟨_,nz _ _ Tz z5,rfl,_,rfl⟩ (jv n0 fun ob e=>nz _ ob (Ne.symm (hC z (.inl rfl))) e) fun h3 tk3 n3 k3=>?_
  refine hQ h3 tk3 _ ⟨k3 _ _ (hC z (.inl rfl)) w1,k3 _ _ (hC TI (.inr (.inl rfl))) (nz _ _ D.TIz (z7 _ _ D.TIz D.TITO D.TIi1 D.TIi2 q2)),⟨_,_,k3 _ _ (hC TO (.inr (.inr (.inl rfl)))) (nz _ _ D.TOz z2)⟩,?_,?_⟩ n3 ⟨_,_,(if_neg ok.nxy).trans (if_pos rfl),r1 _ _ _ p1 f1,if_pos rfl,r2 _ _ _ p2 f2⟩ fun b ob nb nc e=>k3 b ob nc (nz b ob (fun q=>nb (.inl q)) (z7 b ob (fun q=>nb (.inl q)) (fun q=>nb (.inr (.inr (.inl q)))) (fun q=>nb (.inr (.inr (.inr (.inl q))))) (fun q=>nb (.inr (.inr (.inr (.inr q))))) e))
  ·exact z3.at fun ob e=>k3 _ _ (hC i1 (.inr (.inr (.inr (.inl rfl))))) (nz _ _ D.i1z e)
  ·exact z4.at fun ob e=>k3 _ _ (hC i2 (.inr (.inr (.inr (.inr rfl))))) (nz _ _ D.i2z e)
 done:=fun s Q E hat hsrc hQ=>by
  refine YX hat fun q1 q2 wz5x2 q4 q5=>?_;clear hat;obtain ⟨a,b,q3⟩:=wz5x2
  refine wpAny_pyNext_zip_end cx.ok.handled D q1 q2 q3 q4 q5 (zn hsrc.1) (zn hsrc.2) ?_ fun h' k'=>hQ h' s.toks fun b ob nb e=>k' b ob (fun q=>nb (.inl q)) (fun q=>nb (.inr (.inr (.inl q)))) (fun q=>nb (.inr (.inr (.inr (.inl q))))) (fun q=>nb (.inr (.inr (.inr (.inr q))))) e
  rw [QR]
  rcases Nat.le_total xs.length ys.length with q | q
  ·left;rw [min_eq_left q];exact getElem?_toArray.trans (getElem?_eq_none (le_of_eq l1))
  ·right;rw [Nat.min_eq_right q];exact getElem?_toArray.trans (getElem?_eq_none (le_of_eq l2))
theorem Yn {elt a b:za} {z:Str} {y1 z1 e1:Expr} {px py tp p1 p2:Pos} {k:Nat} (G:GOk g F S.B mg mb) (h:yj g S.sc z (.ty "zip")=true) (ok:vh inner S.sc S.sm x y i j) (v1:((S.c a).el .nil).cov (S.g.sh.getD i .i)=true) (v2:((S.c b).el .nil).cov (S.g.sh.getD j .i)=true) (hs:zI y1=false) (hs':zI z1=false) (ha:SE S a y1) (hb:SE S b z1)
  (HE:SE (S.at (zY inner S.sc) ((x,i)::(y,j)::S.sm)) elt e1) :
  SC none S (fun ρ=>(S.E a ρ).bind fun t=>(S.E b ρ).bind fun u=>vS t fun xs=>vS u fun ys=>yl (S.c elt) (fun p=>yW (S.E (.const (.bool true))) (S.E elt) ((ρ.set i (some p.1)).set j (some p.2))) (uZ xs ys)) e1 (.Tuple [.Name x px,.Name y py] k tp) (.Call (.Name z p1) [y1,z1] [] p2) [] inner:=fun {f ρ o s use Q pos cpos} cx p=>by
 have p:z0 none S f o s use Q ((S.E a ρ).bind fun t=>(S.E b ρ).bind fun u=>vS t fun xs=>vS u fun ys=>yl (S.c elt) (fun p=>yW (S.E (.const (.bool true))) (S.E elt) ((ρ.set i (some p.1)).set j (some p.2))) (uZ xs ys)):=p
 refine wpAny_comprehension_free (g:=⟨.Tuple [.Name x px,.Name y py] k tp,.Call (.Name z p1) [y1,z1] [] p2,[],0⟩) (gs:=[]) rfl (fun _=>rfl) (jC fun p hp q=>cx.frm.has p.1 (by rw [cx.kind];exact ok.sco.free p hp q)) ok.sco.kind ok.sco.locs ?_
 refine wz G h (G.ty z _ (zE h).2.2) (.inl ⟨_,rfl⟩) cx (uk hs hs') (y8 hs hs' (ha cx (p.bind fun t v h1 tk r1 g1 hv q=>hb (s:=up s h1 tk) (cx.grow r1 g1) (q.bind fun u w h2 tk2 r2 g2 hu q2=>?_))))
 refine ob12 q2.lst fun xs ez6x1 q3=>?_;clear hs hs' ha hb cpos q2;subst ez6x1
 refine ob12 q3.lst fun ys ez7x1 q4=>?_;clear q3;subst ez7x1
 have cx2:=(cx.grow r1 g1).grow r2 g2
 refine ob25 ((hv.grow g2).node) fun ai ys1 ez8x2 _ wz8x4 el1 es1=>?_;clear r1 g1 hv g2;subst ez8x2;obtain ⟨lx,n1,gx⟩:=wz8x4
 refine ob25 hu.node fun aj ys2 ez9x2 _ wz9x4 el2 es2=>?_;clear hu;subst ez9x2;obtain ⟨ly,n2,gy⟩:=wz9x4
 refine call_zip_2 (s:=up s h2 tk2) (zn gx) (zn gy) fun h3 z1 z2 z3 z4 z5 z6 z7=>?_
 refine wpAny_pyIter_zip (s:=up s h3 tk2) z1 ?_
 have lx':=Heap.lt_size gx
 have ly':=Heap.lt_size gy
 have D:ZipApart (h2.objs.size+4) (h2.objs.size+2) (h2.objs.size+3) h2.objs.size (h2.objs.size+1) ai aj:=by
  have n1:∀ m:Nat,ai≠h2.objs.size+m:=fun m=>ne_of_lt (lt_of_lt_of_le lx' (le_add_right _ _))
  have n2:∀ m:Nat,aj≠h2.objs.size+m:=fun m=>ne_of_lt (lt_of_lt_of_le ly' (le_add_right _ _))
  have n3:∀ m k:Nat,m≠k->h2.objs.size+m≠h2.objs.size+k:=fun m k h e=>h (Nat.add_left_cancel e)
  have n4:∀ m:Nat,m≠0->h2.objs.size+m≠h2.objs.size:=fun m h e=>h (by exact Nat.add_left_cancel (k:=0) (by rw [Nat.add_zero];exact e))
  constructor <;> first | exact n1 _ | exact n2 _ | exact n3 _ _ (by decide) | exact n4 _ (by decide) | exact Ne.symm (n4 _ (by decide)) | exact n1 0 | exact n2 0
 have own:∀ b,(b=h2.objs.size+4\/b=h2.objs.size+2\/b=h2.objs.size+3\/b=h2.objs.size\/b=h2.objs.size+1)->h2.get? b=none:=fun b q=>by
  have le:h2.objs.size<=b:=by clear y1 px py tp p1 p2 pos ly z6 lx' ly';rcases q with rfl | rfl | rfl | rfl | rfl <;> first | exact le_add_right _ _ | exact Nat.le_refl _
  clear y1 px py tp p1 p2 pos ly z6 lx' ly';cases e:h2.get? b with
  |none=>rfl
  |some ob=>exact absurd (Heap.lt_size e) (Nat.not_lt.mpr le)
 have gr:zA h2 h3:=fun b _ e=>zb (z7 b) e
 refine wV (X:=none) (s:=up s h2 tk2) (I:=h2.objs.size+4) (up1:=fun p=>(ρ.set i (some p.1)).set j (some p.2)) (Bnd:=Ti S o h2 ((S.c a).el .nil) ((S.c b).el .nil) x y) (items:=uZ xs ys) (c:=.const (.bool true)) (Src:=fun h=>h.get? ai=some (zf ys1 n1)/\h.get? aj=some (zf ys2 n2)) (At:=T8 (h2.objs.size+4) (h2.objs.size+2) (h2.objs.size+3) h2.objs.size (h2.objs.size+1) ai aj)
  (P:=fun b=>b=h2.objs.size+4\/b=h2.objs.size+2\/b=h2.objs.size+3\/b=h2.objs.size\/b=h2.objs.size+1) (fun _ e=>nomatch e) ok.sco cx2 (SE.el HE) JP (r2.grow z7) gr own (fun b q=>?_)
  ⟨z1,z2,⟨_,_,z3⟩,z4,z5⟩ (by rw [QR,<- el1];exact Nat.le_trans (min_le_left _ _) lx) (fun Cn hC=>Xe (xs:=xs) (ys:=ys) cx ok D el1 el2 (fun k t v a b=>(es1 k t v a b).to fun _ _=>Kx (e:=.nil) fun k hc=>no3 hc) (fun k t v a b=>(es2 k t v a b).to fun _ _=>Kx (e:=.nil) fun k hc=>no3 hc) hC)
  (fun D Cn h' eD eC kk=>?_) (fun D Cn p m h o' eD eC _=>TX ok v1 v2 own gr D Cn p m h o' eD eC) (fun s Q E at0 hQ=>wpAny_pyIter_zip at0.1 hQ) q4
 ·clear z y1 e1 px py tp p1 p2 k h ok v1 v2 HE ys p pos cx r2 q4 cx2 el1 es1 lx el2 es2 ly z6 z7 lx' ly';rcases q with rfl | rfl | rfl | rfl | rfl
  ·exact ⟨_,z1⟩
  ·exact ⟨_,z2⟩
  ·exact ⟨_,z3⟩
  ·refine ob12 z4 fun ob e _=>?_;clear z4;exact ⟨ob,e⟩
  ·refine ob12 z5 fun ob e _=>?_;clear z5;exact ⟨ob,e⟩
 ·have kk':∀ b ob,look h2 b=some ob->look h' b=some ob:=fun b ob e=>kk b ob (fun q=>by
   clear z y1 z1 e1 px py tp p1 p2 k h ok v1 v2 HE ys p pos cx r2 q4 cx2 el1 es1 lx el2 es2 ly z2 z3 z4 z5 z6 z7 lx' ly' h' kk;rcases q with q | q | q
   ·exact yC e (fun _ _ e=>e) (own b q) rfl
   ·exact yC e gr eD q
   ·exact yC e gr eC q) (gr b ob e)
  exact ⟨zx (kk' ai _ (zV gx zj)) zj,zx (kk' aj _ (zV gy zj)) zj⟩
end
noncomputable def lB (l:Option (Nat × List Nat)):Option (Nat × List Nat):=l.map fun xp=>cond (Nat.beq xp.1 bL||Nat.beq xp.1 bF) (bF,[]) (bB,[])
noncomputable def oB (o:Own):Own:=fun a=>lB (o a)
theorem qM (o:Own) (a:Addr):frS (oB o a):=by
 show frS (lB (o a))
 unfold lB
 cases o a with
 |none=>exact .inl rfl
 |some xp =>
  show frS (some (cond _ _ _))
  clear o a;cases (Nat.beq xp.1 bL||Nat.beq xp.1 bF)
  ·exact .inr (.inl rfl)
  ·exact .inr (.inr rfl)
theorem Jd {o:Own} {a:Addr} (e:o a=none):oB o a=none:=congrArg lB e
theorem wa {o:Own} {a:Addr} (e:oB o a=none):o a=none:=by
 have e:lB (o a)=none:=e
 revert e;cases o a with
 |none=>intro e;rfl
 |some xp=>intro e;exact no2 e
theorem Ak {o:Own} {a:Addr} (q:fl (oB o a)):(∃ p,o a=some (bL,p))\/∃ p,o a=some (bF,p):=by
 have q:fl (lB (o a)):=q
 revert q;cases o a with
 |none=>intro q;rcases q with q | q <;> exact no1 q
 |some xp =>
  intro q
  obtain ⟨x,p⟩:=xp
  have q:fl (some (cond (Nat.beq x bL||Nat.beq x bF) (bF,[]) (bB,[]))):=q
  cases z:(Nat.beq x bL||Nat.beq x bF) with
  |false=>rw [z] at q;rcases q with q | q <;> (injection q with q;injection q with q;exact absurd q (by decide))
  |true =>
   clear q;rcases or_eq_true_iff.mp z with z | z
   ·exact .inl ⟨p,by rw [eq_of_beq_eq_true z]⟩
   ·exact .inr ⟨p,by rw [eq_of_beq_eq_true z]⟩
structure VA (n:Nat) (A:Around):Prop where
 handled:A.handled=none
 depth:A.depth+2*n<900
 units:A.units+20*n+100<9900
theorem AOk.low {n:Nat} {A:Around} (h:AOk n A):VA n A:=⟨h.handled,by have:=h.depth;(exact om6 this),by have:=h.units;(exact DD this)⟩
noncomputable def IOf (B:Heap) (g:Sg) (ws:List Value) (ρ:VS) (o:Own) (h:Heap):Prop:=∀ (j:Nat) s,g.ps[j]?=some s->s.own=true->∃ t v,ρ[j]?=some (some t)/\ws[j]?=some v/\Rd B h (cL o j s) t v
noncomputable def PC (B:Heap) (X:XE) (g:Sg) (ws:List Value) (o:Own) (Q:Value->Shared->Prop) (s:Shared):VR Tr->Prop
 | .ok t ρ=>∀ o' v h' tk,HB B o' h'->yH o'->zC frS o o' s.heap h'->(∀ a j p,o a=some (j,p)->j<g.ps.length->o' a=o a)->IOf B g ws ρ o' h'->Rd B h' (cL o' bR g.rs) t v->Q v (up s h' tk)
 | .exc c ρ=>PX B X (fun o' h=>yH o'/\(∀ a j p,o a=some (j,p)->j<g.ps.length->o' a=o a)/\IOf B g ws ρ o' h) frS o s c
 | .stuck=>False
noncomputable def CS (S:Su) (g:yd) (F:Nat->Option zr):Prop :=
 ∀ (f:Nat) (a:Addr) (ts:List Tr) (ws:List Value) (o:Own) (s:Shared) (A:Around) (X:XE) (Q:Value->Shared->Prop),Vx g F S.B f a->VA S.n A->HB S.B o s.heap->yH o->A.frames=some X.l->JF S.B X.l o s.heap ->
  (∀ a x p,o a=some (x,p)->x<(S.G f).ps.length\/(x=bB/\p=[])\/x=bF)->ts ≠ []->ws.length=ts.length->(∀ (j:Nat) t v,ts[j]?=some t->ws[j]?=some v->Rd S.B s.heap (cO o j ((S.G f).ps.getD j .i)) t v) ->
  PC S.B X (S.G f) ws o Q s (S.C f ts)->codeAny S.M A (.call (.ref a) ⟨ws,[]⟩) (fun r s'=>match r with | .ok (.ret v)=>Q v s' | .ok _=>False | .error e=>X.E e s') s
section
variable {S:Su} {f:Fr} {ρ:VS} {o:Own} {s:Shared} {h:Heap}
theorem WQ:∀ {ps cs:List Sh} {ts:List Tr} {vs:List Value},AL S o cs h ts vs->j8 ps cs ts=true->vs.length=ts.length/\∀ (j:Nat) t v x,ts[j]?=some t->vs[j]?=some v->Rd S.B h (cO (oB o) x (ps.getD j .i)) t v
 |ps,[],ts,vs,⟨e1,e2⟩,_=>by subst e1 e2;exact ⟨rfl,fun _ _ _ _ e=>nomatch e⟩
 |ps,c::cs,_,_,⟨t,ts,v,vs,e1,e2,r,rs⟩,e=>by
  subst e1 e2
  refine zc (and_eq_true_iff.mp e) fun h1 h2=>?_
  refine zc (WQ rs h2) fun l k=>?_
  refine ⟨congrArg (·+1) l,fun j t' v' x e1 e2=>?_⟩
  clear rs h2 l;cases j with
  |succ j =>
   have:=k j t' v' x e1 e2
   clear k;cases ps with
   |nil=>exact this
   |cons=>exact this
  |zero =>
   clear k;cases e1;cases e2
   have z:ps.getD 0 .i=ps.headD .i:=by clear vs x;cases ps <;> rfl
   rw [z]
   clear vs z;revert h1;cases ps.headD .i with
   |i=>intro h1;exact (r.st h1).to fun _ a e=>Jd e
   |b=>intro h1;exact r.to fun _ a _=>qM o a
   | _=>intro h1;clear cs ts e r;cases h1
theorem V0 {o':Own} {h':Heap} {c:Sh} {t:Tr} {v:Value} (bd:HB S.B o h) (k:∀ b ob,look h b=some ob->o' b=oB o b) (r:Rd S.B h' (cL o' bR c) t v):Rd S.B h' (imm o) t v:=r.to fun p a q=>by
 clear h' t v r;cases e:h.get? a with
 |none=>exact bd.free e
 |some ob =>
  have q:o' a=cond (c.mem p) (some (bR,p)) none:=q
  rw [k a _ (zm e)] at q
  clear bd k;revert q;cases c.mem p with
  |false=>intro q;exact wa q
  |true =>
   intro q
   exfalso
   rcases qM o a with y | y | y <;> (rw [q] at y;first | cases y | (injection y with y;injection y with y;exact absurd y (by decide)))
theorem V2 {g:yd} {F:Nat->Option zr} {f0:Nat} {a:Addr} {cs:List Sh} {ts:List Tr} {vs:List Value} {Q:Value->Shared->Prop} {V:Heap->Tr->Value->Prop} (C:CS S g F) (fa:Vx g F S.B f0 a) (cx:Cx S f ρ o s.heap) (r:AL S o cs s.heap ts vs) (p:Po S f o V Q s (Yx S.G S.C f0 cs ts))
  (hV:∀ o' h' t v,HB S.B o' h'->yH o'->(∀ b ob,look s.heap b=some ob->o' b=oB o b)->Rd S.B h' (cL o' bR (S.G f0).rs) t v->V h' t v) :
  codeAny S.M f.A (.call (.ref a) ⟨vs,[]⟩) (fun r s'=>match r with | .ok (.ret v)=>Q v s' | .ok _=>False | .error e=>f.X.E e s') s:=by
 refine zc p.cond fun e p=>?_
 refine zc (and_eq_true_iff.mp e) fun e ne=>?_
 refine zc (WQ r e) fun l k=>?_
 have al:∀ {b:Addr},oB o b≠none->o b≠none:=fun n z=>n (Jd z)
 have grw:∀ {o':Own} {h':Heap},zC frS (oB o) o' s.heap h'->zA s.heap h':=fun st b ob e=>(st b ob (qM o b) e).1
 refine C f0 a ts vs (oB o) s f.A f.X Q fa cx.ok.low ⟨cx.rel.base,fun b n=>cx.rel.own b (al n)⟩ (fun b x p e z=>?_) cx.frames (fun e he=>?_) (fun b x p e=>?_) (fun z=>by rw [z] at ne;clear a fa r al;exact no3 ne) l (fun j t v e1 e2=>k j t v j e1 e2) ?_
 ·clear a vs fa r ne l k al;rcases qM o b with y | y | y <;> (rw [e] at y;cases y)
  ·rfl
  ·rfl
 ·refine zc (cx.fok e he) fun h1 wz0=>?_;refine ob14 wz0 fun L h2 h3 h4 h5=>?_
  refine ⟨h1,L,h2,.inl ?_,h4,h5⟩
  show lB (o L)=_
  clear a vs fa r ne l k al he h1 wz0 h2 h4 h5;rcases h3 with h3 | h3 <;> (rw [h3];rfl)
 ·clear a vs fa r ne l k al;rcases qM o b with y | y | y <;> (rw [e] at y;cases y)
  ·exact .inr (.inl ⟨rfl,rfl⟩)
  ·exact .inr (.inr rfl)
 ·clear a fa r ne l k al;revert p;cases S.C f0 ts with
  |stuck=>intro p;exact p.elim
  |ok t ρ' =>
   intro p
   intro o' v h' tk r' fl' st _ _ rv
   have gr:=grw st
   exact p v h' tk ⟨r'.base,fun b n=>⟨(cx.rel.own b n).1,let ⟨_,e⟩:=(cx.rel.own b n).2;let ⟨o2,z,_⟩:=zp (gr b _ (zm e));⟨o2,z⟩⟩⟩ gr (hV o' h' t v r' fl' (fun b ob e=>(st b ob (qM o b) e).2) rv)
  |exc c ρ' =>
   intro p
   intro o' h' tk e base r' xc _ st x
   have hf:∀ {b:Addr},¬ fl (o b)->¬ fl (oB o b):=fun {b} nf y=>nf (by
    clear hV grw;rcases Ak y with ⟨p,y⟩ | ⟨p,y⟩
    ·have:=cx.flo b _ p y (.inl rfl);subst this;exact .inr y
    ·have:=cx.flo b _ p y (.inr rfl);subst this;exact .inl y)
   exact p o h' tk e base ⟨r'.base,fun b n=>⟨(cx.rel.own b n).1,fun nf=>let ⟨_,e⟩:=(cx.rel.own b n).2;let ⟨o2,z,_⟩:=zp (st.based b _ (qM o b) (zm e) (.inr (hf nf)));⟨o2,z⟩⟩⟩ xc rfl ⟨fun b ob _ e=>⟨(st.step b ob (qM o b) e).1,rfl⟩,fun b ob _ e nd=>st.based b ob (qM o b) e (nd.imp id hf)⟩ x
theorem VP {g:yd} {F:Nat->Option zr} {mg mb:Str->Option Value} {f0:Nat} {args:za} {x:Str} {es:List Expr} {p1 pos:Pos} {Q:Value->Shared->Prop} {V:Heap->Tr->Value->Prop} (G:GOk g F S.B mg mb) (C:CS S g F) (h:yj g S.sc x (.fn f0)=true) (ns:y6 es) (ha:SS S args es) (cx:Cx S f ρ o s.heap)
  (p:Po S f o V Q s (S.E (.call f0 args) ρ)) (hV:∀ h1 o' h' t v,HB S.B o h1->zA s.heap h1->HB S.B o' h'->yH o'->(∀ b ob,look h1 b=some ob->o' b=oB o b)->Rd S.B h' (cL o' bR (S.G f0).rs) t v->V h' t v):wpAny S.M f.A (eval (.Call (.Name x p1) es [] pos) f.env) Q f.X.E s:=by
 refine ob12 (G.fn x f0 (zE h).2.2) fun a e fa=>?_
 have ⟨ob,fd,body,names,d,ho,hd,_⟩:=fa
 refine wpAny_Call_Name_kw (jM G h cx e ?_)
 show wpAny S.M f.A (callWith pos (.ref a) [] (backTo pos (starEach es f.env)) []) Q f.X.E s
 refine Calls.callWith_function (o:=ob) (fd:=fd) (qB ns (ha.bind cx p fun ts ws h1 tk r g hvs q=>⟨⟨r.base _ _ ho,hd⟩,?_⟩))
 exact wpAny_call (V2 (s:=up s h1 tk) C fa (cx.grow r g) hvs q fun o' h' t v=>hV h1 o' h' t v r g)
theorem Ur {g:yd} {F:Nat->Option zr} {mg mb:Str->Option Value} {f0:Nat} {args:za} {x:Str} {es:List Expr} {p1 pos:Pos} (G:GOk g F S.B mg mb) (C:CS S g F) (h:yj g S.sc x (.fn f0)=true) (ns:y6 es) (ha:SS S args es):SE S (.call f0 args) (.Call (.Name x p1) es [] pos):=fun {f ρ o s Q} cx p =>
 VP G C h ns ha cx p fun h1 o' h' t v r g _ _ k rv=>V0 r k rv
end
theorem uy {env:Env} {es:List Expr} {pos:Pos} (ns:y6 es) (hl:es.length<20):((backTo pos (starEach es env)).all (fun x=>!x.1)&&(backToKw pos (keywordEach [] env)).all (fun x=>x.1.isSome)
   && decide (es.length+([]:List Keyword).length+(if ([]:List Keyword).isEmpty then 0 else 1)<30))=true:=by
 have h1:=yM (env:=env) ns (pos:=pos)
 have h2:(backTo pos (starEach es env)).all (fun x=>!x.1)=true:=by
  rw [all_eq_true];intro x hx
  rw [List.any_eq_false] at h1
  simpa using h1 x hx
 rw [h2]
 show (true&&true&&decide (es.length+0+0<30))=true
 simp only [Bool.true_and,decide_eq_true_eq]
 (exact AQ hl)
theorem KP {prog:Program} {w:World} {A:Around} {E:Value->Shared->Prop} {env:Env} {s:Shared} {o:Expr} {name:Str} {apos pos:Pos} {args:List Expr} {Q:Value->Shared->Prop} (hbase:attributeBase o name env (eval o env)=eval o env)
  (hfew:((backTo pos (starEach args env)).all (fun x=>!x.1)&&(backToKw pos (keywordEach [] env)).all (fun x=>x.1.isSome)&&decide (args.length+([]:List Keyword).length+(if ([]:List Keyword).isEmpty then 0 else 1)<30))=true)
  (hline:(apos.endLine==pos.line)=true)
  (h:wpAny (model prog w) A (eval o env) (fun ov s₁=>∀ pl,wpAny (model prog w) A (getMethod ov name pl) (fun fx s₂=>wpAny (model prog w) A (callWith pos fx.1 fx.2 (backTo pos (starEach args env)) []) Q E s₂) E s₁) E s) :
  wpAny (model prog w) A (eval (.Call (.Attribute o name apos) args [] pos) env) Q E s:=by
 rw [arm_eval_Call,hbase]
 refine wpAny_bind (wpAny_mono h (fun ov s₁ h₁=>?_) fun _ _ e=>e)
 refine wpAny_bind (wpAny_standAt ?_)
 have hform:methodCallForm (args.length+([]:List Keyword).length) (backTo pos (starEach args env)) (backToKw pos (keywordEach [] env))=true:=hfew
 have hpos:methodCallPos true o env apos pos=pure pos:=by unfold methodCallPos;simp [hline]
 unfold methodCall
 rw [hform]
 refine wpAny_bind (wpAny_holding (wpAny_mono (h₁ _) (fun fx s₂ h₂=>?_) fun _ _ e=>e))
 exact wpAny_bind (wpAny_of_eq hpos h₂)
section
variable {S:Su} {f:Fr} {ρ:VS} {o:Own} {s:Shared} {g:yd} {F:Nat->Option zr} {mg mb:Str->Option Value}
theorem we {t:Tr} (e:vd t=true):∃ ts,t=.nd .inst ts:=by
 cases t with
 |sc=>exact no3 e
 |nd k ts=>cases k with
  |inst=>exact ⟨ts,rfl⟩
  | _=>cases e
theorem JT {f0:Nat} {m args:za} {x nm:Str} {es:List Expr} {px apos pos:Pos} {Q:Value->Shared->Prop} {V:Heap->Tr->Value->Prop} (G:GOk g F S.B mg mb) (C:CS S g F) (ht:kJ (g.lookup qi)=true) (hm:g.lookup (qk nm)=some (.meth f0)) (hn:nm ∉ [ze 0,ze 1,ze 2])
  (hline:(apos.endLine==pos.line)=true) (hl:es.length<20) (ns:y6 es) (ho:SE S m (.Name x px)) (ha:SS S args es) (cx:Cx S f ρ o s.heap) (p:Po S f o V Q s (S.E (.mcall f0 m args) ρ))
  (hV:∀ h1 o' h' t v,HB S.B o h1->zA s.heap h1->HB S.B o' h'->yH o'->(∀ b ob,look h1 b=some ob->o' b=oB o b)->Rd S.B h' (cL o' bR (S.G f0).rs) t v->V h' t v):wpAny S.M f.A (eval (.Call (.Attribute (.Name x px) nm apos) es [] pos) f.env) Q f.X.E s:=by
 refine ob11 (je ht) fun f1 hf=>?_
 refine ob27 ((G.tab f1 hf).2) fun N mN TC _ t1 t2 t3 t4 t5=>?_
 refine ob24 (t5 nm f0 hm) fun a' oF m1 m2 m3 fa=>?_
 have ⟨oF',fd,body,names,d,ho',hd,_⟩:=fa
 refine KP rfl (uy ns hl) hline (ho.bind cx p fun t v h1 tk r1 g1 hv q pl=>?_)
 refine zc (Po.cond q) fun hi q=>?_
 refine ob11 (we hi) fun ts ez2x1=>?_;clear x px apos ht hm hline hl ho p hf t3 t4 t5 hi;subst ez2x1
 have hv':=hv
 refine ob24 hv.node fun a ys ez2x2 _ wz2x4 _=>?_;clear hv;subst ez2x2;refine ob12 wz2x4 fun dx _ I=>?_
 refine ob13 I.inst fun mA I _ i8=>?_
 have kb:∀ b ob,S.B.get? b=some ob->h1.get? b=some ob:=r1.base
 refine ob11 (vI (TC.keeps kb)) fun xr hC=>?_
 refine ob11 (ui nm) fun y hy=>?_
 refine method_of hC (TC.keeps kb).ns t1 t2 m1 (kb _ _ m2) m3 hy I (Classical.byContradiction fun z=>hn (i8 nm z)) ?_
 refine Calls.callWith_function (o:=oF') (fd:=fd) (qB ns (ha.bind (s:=up s h1 tk) (cx.grow r1 g1) q fun us ws h2 tk2 r2 g2 hvs q2=>⟨⟨r2.base _ _ ho',hd⟩,?_⟩))
 exact wpAny_call (V2 (s:=up s h2 tk2) (cs:=S.c m::jQ S.g.sh args) (ts:=.nd .inst ts::us) (vs:=.ref a::ws) C fa ((cx.grow r1 g1).grow r2 g2) ⟨_,us,_,ws,rfl,rfl,hv'.grow g2,hvs⟩ q2 fun o' h' t v=>hV h2 o' h' t v r2 (fun b ob e=>g2 b ob (g1 b ob e)))
theorem Yk {f0:Nat} {m args:za} {x nm:Str} {es:List Expr} {px apos pos:Pos} (G:GOk g F S.B mg mb) (C:CS S g F) (ht:kJ (g.lookup qi)=true) (hm:g.lookup (qk nm)=some (.meth f0)) (hn:nm ∉ [ze 0,ze 1,ze 2])
  (hline:(apos.endLine==pos.line)=true) (hl:es.length<20) (ns:y6 es) (ho:SE S m (.Name x px)) (ha:SS S args es):SE S (.mcall f0 m args) (.Call (.Attribute (.Name x px) nm apos) es [] pos):=fun {f ρ o s Q} cx p =>
 JT G C ht hm hn hline hl ns ho ha cx p fun h1 o' h' t v r g _ _ k rv=>V0 r k rv
end
section
variable {S:Su} {f:Fr} {ρ:VS} {o:Own} {s:Shared} {g:yd} {F:Nat->Option zr} {mg mb:Str->Option Value}
theorem Xw {x y z:Ex Tr} {o₁ o₂:CmpOp} {V:Heap->Bool->Bool->Prop} {Q:Bool->Shared->Prop}
  (p:Po S f o V Q s ((x.bind fun t=>y.bind fun u=>(Ex.opt (ym o₁ t u)).bind fun b=>if b then z.bind fun w=>(Ex.opt (ym o₂ u w)).bind fun t=>.ok (.sc (.bool t)) else .ok (.sc (.bool false))).bind fun t=>Ex.opt (zd t))) :
  Po S f o V Q s (x.bind fun t=>y.bind fun u=>(Ex.opt (ym o₁ t u)).bind fun b=>if b then z.bind fun w=>(Ex.opt (ym o₂ u w)).bind fun t=>.ok t else .ok false):=by
 cases x with
 |ok t=>cases y with
  |ok u =>
   have p:Po S f o V Q s (((Ex.opt (ym o₁ t u)).bind fun b=>if b then z.bind fun w=>(Ex.opt (ym o₂ u w)).bind fun t=>.ok (.sc (.bool t)) else .ok (.sc (.bool false))).bind fun t=>Ex.opt (zd t)):=p
   show Po S f o V Q s ((Ex.opt (ym o₁ t u)).bind fun b=>if b then z.bind fun w=>(Ex.opt (ym o₂ u w)).bind fun t=>.ok t else .ok false)
   cases e:ym o₁ t u with
   |none=>rw [e] at p;exact p
   |some b =>
    rw [e] at p
    cases b with
    |false=>exact p
    |true=>cases z with
     |ok w =>
      have p:Po S f o V Q s (((Ex.opt (ym o₂ u w)).bind fun t=>.ok (.sc (.bool t))).bind fun t=>Ex.opt (zd t)):=p
      show Po S f o V Q s ((Ex.opt (ym o₂ u w)).bind fun t=>.ok t)
      revert p;cases ym o₂ u w with
      |none=>intro p;exact p
      |some b=>intro p;exact p
     | _=>exact p
  | _=>exact p
 | _=>exact p
theorem Uj {o₁ o₂:CmpOp} {a b c:za} {l r₁ r₂:Expr} {pos:Pos} (hm:lastMarks [o₁,o₂] [r₁,r₂]=false) (ha:SE S a l) (hb:SE S b r₁) (hc:SE S c r₂) :
  ST S (.cmp2 o₁ o₂ a b c) (.Compare l [o₁,o₂] [r₁,r₂] pos):=fun {f ρ o s Q} cx p=>by
 refine PyProof.Rows.isTrue_chain (ha.bind cx (Xw p) fun t v h1 tk r g hv q=>PyProof.Rows.test_link (hb.bind (s:=up _ h1 tk) (cx.grow r g) q fun u w h2 tk2 r2 g2 hu q2 =>
  KM (s:=up _ h2 tk2) cx.ok (hv.grow g2) hu q2 fun t q3=>wpAny_truthy_bool ?_)) hm
 clear o₁ a l r₁ hm ha hb p v hv q q2;cases t with
 |false=>exact Po.here' (s:=up _ h2 tk2) q3 r2 rfl
 |true=>exact PyProof.Rows.test_last (hc.bind (s:=up _ h2 tk2) ((cx.grow r g).grow r2 g2) q3 fun x x' h4 tk4 r4 g4 hx q4=>KM (s:=up _ h4 tk4) cx.ok (hu.grow g4) hx q4 fun b q5=>wpAny_truthy_bool (Po.here' (s:=up _ h4 tk4) q5 r4 rfl))
structure E3 (S:Su) (m:za) (e:Expr):Prop where
 E:SE S m e
 T:ST S m e
 fs:∀ env x,foldedSetIterable e env x=pure x
 R:kw S.g.sh m=true->SR S m e
structure S3 (S:Su) (m:za) (es:List Expr):Prop where
 ss:SS S m es
 ns:y6 es
 O:∀ x:Option Expr,x.toList=es->SO S m x
noncomputable def PE (S:Su) (g:yd) (m:za):Prop:=∀ sc sm,
 (∀ e,(chk g m sc sm).E e=true->E3 (S.at sc sm) m e) /\
 (∀ es,(chk g m sc sm).Es es=true->S3 (S.at sc sm) m es) /\
 (∀ e,(chk g m sc sm).I e=true->SI (S.at sc sm) m e)
theorem zP {m:za} {k:Scope->List (Str × Nat)->Expr->Bool} (hm:∀ sc sm,chk g m sc sm=ckE (k sc sm))
  (h:∀ sc sm e,k sc sm e=true->E3 (S.at sc sm) m e):PE S g m:=fun sc sm=>by
 rw [hm]
 exact ⟨h sc sm,fun es q=>no3 q,fun e q=>no3 q⟩
theorem qt {m:za} {e:Expr} (h:SE S m e) (he:∀ env whole,isTrue e env whole=(do let v <- whole;standAt e.pos;holding [v] (truthy v))) (hf:∀ env x,foldedSetIterable e env x=pure x) (hr:kw S.g.sh m=true->SR S m e):E3 S m e:=⟨h,ST.plain h he,hf,hr⟩
theorem SR.e3 {m:za} {e:Expr} (h:SR S m e) (c:S.c m=.i) (he:∀ env whole,isTrue e env whole=(do let v <- whole;standAt e.pos;holding [v] (truthy v))) (hf:∀ env x,foldedSetIterable e env x=pure x):E3 S m e:=qt (h.se c) he hf fun _=>h
noncomputable def LC (X:Option Nat) (S:Su) (m:za) (e:Expr):Prop :=
 ∃ e1 tgt iter ifs inner pos res,e=.ListComp e1 [⟨tgt,iter,ifs,0⟩] inner pos/\((∀ ρ,S.E m ρ=.stuck)\/(∀ ρ,S.E m ρ=(res ρ).bind mkL)/\SC X S res e1 tgt iter ifs inner)
theorem LC.e3 {m:za} {e:Expr} (h:LC none S m e) (c:S.c m=.i):E3 S m e:=by
 obtain ⟨e1,tgt,iter,ifs,inner,pos,res,rfl,h⟩:=h
 refine SR.e3 ?_ c (fun _ _=>rfl) (fun _ _=>rfl)
 clear c;rcases h with h | ⟨h1,h2⟩
 ·exact fun {f ρ o s Q} cx p=>by rw [h] at p;exact p.elim
 ·exact fun cx p=>Hv h1 h2 cx p
theorem LC.of {X:Option Nat} {m:za} {e1 tgt iter:Expr} {ifs:List Expr} {inner:Scope} {pos:Pos} {b:Bool} {res:VS->Ex (List Tr)} (hE:∀ ρ,S.E m ρ=cond b ((res ρ).bind mkL) .stuck) (H:b=true->SC X S res e1 tgt iter ifs inner):LC X S m (.ListComp e1 [⟨tgt,iter,ifs,0⟩] inner pos) :=
 ⟨e1,tgt,iter,ifs,inner,pos,res,rfl,by
  clear pos;cases b with
  |true=>exact .inr ⟨hE,H rfl⟩
  |false=>exact .inl hE⟩
theorem JO {sc:Scope} {sm:List (Str × Nat)} {cond:za} {ifs:List Expr} (ic:PE S g cond) (q:(match ifs with | []=>Zi cond | [c]=>(chk g cond sc sm).E c | _=>false)=true):vK (S.at sc sm) cond ifs:=by
 match ifs,q with
 | [],q=>rw [UU q];exact @JP _
 | [c],q=>exact @X0 _ _ _ ((ic _ _).1 _ q).T
theorem xN {X:Option Nat} (hX:XOk X) {sc:Scope} {sm:List (Str × Nat)} {elt tgt it c:za} (ie:∀ sc sm e,(chk g elt sc sm).E e=true->SEl X (S.at sc sm) elt e) (ii:PE S g it) (ic:PE S g c) {e:Expr} (q:(chk g (.comp elt tgt it c) sc sm).E e=true):LC X (S.at sc sm) (.comp elt tgt it c) e:=by
 refine ug q fun e1 gs sc' p k=>?_
 clear e q;cases z:zQ tgt with
 |some i =>
  rw [z] at k
  refine jo k fun gn k'=>?_
  obtain ⟨tg,iter,ifs,a⟩:=gn
  refine zD (P:=fun tg=>LC X (S.at sc sm) (.comp elt tgt it c) (.ListComp e1 [⟨tg,iter,ifs,a⟩] sc' p)) k' fun x p2 k''=>?_
  refine ad8 k'' fun q0 q1 q2 q3 q4 q5 q6 q7=>?_
  refine eqr (show a=0 from beq_iff_eq.mp q0) ?_
  refine LC.of (b:=((S.at sc sm).c it).cov ((S.at sc sm).g.sh.getD i .i)) (fun ρ=>?_) fun cov=>Ut hX (Xu q1 q2 q4) cov ((ii sc sm).2.2 _ q5) (ie _ _ _ q6) (JO ic q7)
  show (match zQ tgt with | some y=>_ | none=>_)=_
  rw [z,Ex.bind_bind]
 |none=>rw [z] at k;clear hX ie ii ic;exact no3 k
theorem Et {A0 A1 A2 A3 A4 A5 A6 A7 A8 A9 P:Prop} (h:(((((((((A0/\A1)/\A2)/\A3)/\A4)/\A5)/\A6)/\A7)/\A8)/\A9)) (k:A0->A1->A2->A3->A4->A5->A6->A7->A8->A9->P):P:=k h.1.1.1.1.1.1.1.1.1 h.1.1.1.1.1.1.1.1.2 h.1.1.1.1.1.1.1.2 h.1.1.1.1.1.1.2 h.1.1.1.1.1.2 h.1.1.1.1.2 h.1.1.1.2 h.1.1.2 h.1.2 h.2
theorem KK {inner sc:Scope} {sm:List (Str × Nat)} {x y:Str} {i j:Nat} (h:WK inner sc sm x y i j=true):vh inner sc sm x y i j:=by
 unfold WK QK at h
 simp only [and_eq_true,beq_iff_eq,decide_eq_true_eq,ne_eq] at h
 refine Et h fun hk al h1 h2 h3 h4 h5 h6 _ _=>?_;clear h
 rw [all_eq_true] at al h3 h4
 refine ⟨⟨hk,fun p hp e=>?_,fun p hp e=>?_,fun p hp e=>?_⟩,h1,h2,fun p hp e=>?_,fun z k hz=>?_,h5,h6⟩
 ·have:=al p hp;simp [e] at this
 ·have:=al p hp;simp [e] at this;exact this
 ·have:=al p hp;simp [e] at this;exact this
 ·have:=h3 p hp
  simp only [e,bne_self_eq_false,Bool.false_or,or_eq_true,beq_iff_eq,isNone_iff_eq_none] at this
  clear inner sc hk al h1 h2 h3 h5 h6 hp e;rcases this with (q | q) | q
  ·exact .inl q
  ·exact .inr (.inl q)
  ·exact .inr (.inr q)
 ·have:=h4 _ (zh hz)
  simpa using this
theorem KI {sc:Scope} {sm:List (Str × Nat)} {elt a c:za} {i j:Nat} (ie:PE S g elt) (ia:PE S g a) (ic:PE S g c) {e:Expr} (q:(chk g (.compp elt i j a c) sc sm).E e=true):LC none (S.at sc sm) (.compp elt i j a c) e:=by
 refine ug q fun e1 gs sc' p k=>?_
 refine jo k fun gn k'=>?_
 obtain ⟨tg,iter,ifs,is⟩:=gn
 refine J6 (P:=fun tg=>LC none (S.at sc sm) (.compp elt i j a c) (.ListComp e1 [⟨tg,iter,ifs,is⟩] sc' p)) k' fun x px y py ct tp k''=>?_
 refine ad5 k'' fun q0 q1 q2 q3 q4=>?_
 refine eqr (show is=0 from beq_iff_eq.mp q0) ?_
 have a3:=(ia sc sm).1 _ q2
 refine LC.of (b:=(((S.at sc sm).c a).el .nil).isI&&((S.at sc sm).g.sh.getD i .i).isI&&((S.at sc sm).g.sh.getD j .i).isI) (fun ρ=>rfl) fun cov=>?_
 refine ad3 cov fun c1 c2 c3=>?_
 exact Yo (S:=S.at sc sm) (KK q1) c1 c2 c3 a3.fs a3.E ((ie _ _).1 _ q3).E (JO ic q4)
theorem KH (G:GOk g F S.B mg mb) {sc:Scope} {sm:List (Str × Nat)} {elt a b:za} {i j:Nat} (ie:PE S g elt) (ia:PE S g a) (ib:PE S g b) {e:Expr} (q:(chk g (.compq elt i j a b) sc sm).E e=true):LC none (S.at sc sm) (.compq elt i j a b) e:=by
 have G':GOk g F (S.at sc sm).B mg mb:=G
 refine ug q fun e1 gs sc' p k=>?_
 refine jo k fun gn k'=>?_
 obtain ⟨tg,iter,ifs,is⟩:=gn
 refine J6 (P:=fun tg=>LC none (S.at sc sm) (.compq elt i j a b) (.ListComp e1 [⟨tg,iter,ifs,is⟩] sc' p)) k' fun x px y py c tp k''=>?_
 refine ad5 k'' fun q0 q0' q1 q2 q3=>?_
 refine eqr (show is=0 from beq_iff_eq.mp q0) ?_
 refine eqr (show ifs=[] from isEmpty_iff.mp q0') ?_
 refine yK (P:=fun iter=>LC none (S.at sc sm) (.compq elt i j a b) (.ListComp e1 [⟨.Tuple [.Name x px,.Name y py] c tp,iter,[],0⟩] sc' p)) q3 fun z pz es p' k2=>?_
 refine ad2 k2 fun k1 k2=>?_
 refine JL (P:=fun es=>LC none (S.at sc sm) (.compq elt i j a b) (.ListComp e1 [⟨.Tuple [.Name x px,.Name y py] c tp,.Call (.Name z pz) es [] p',[],0⟩] sc' p)) k2 fun y1 z1 k3=>?_
 refine ad4 k3 fun q4 q5 q6 q7=>?_
 refine LC.of (b:=(((S.at sc sm).c a).el .nil).cov ((S.at sc sm).g.sh.getD i .i)&&(((S.at sc sm).c b).el .nil).cov ((S.at sc sm).g.sh.getD j .i)) (fun ρ=>rfl) fun cov=>?_
 refine ad2 cov fun c1 c2=>?_
 exact Yn (S:=S.at sc sm) G' k1 (KK q1) c1 c2 (bn q6) (bn q7) ((ia sc sm).1 _ q4).E ((ib sc sm).1 _ q5).E ((ie _ _).1 _ q2).E
theorem noX:XOk none:=fun _ e=>nomatch e
theorem EH (G:GOk g F S.B mg mb) (cs:CS S g F):∀ m,PE S g m:=by
 have G':∀ sc sm,GOk g F (S.at sc sm).B mg mb:=fun _ _=>G
 have cs':∀ sc sm,CS (S.at sc sm) g F:=fun _ _=>cs
 intro m
 clear cs;induction m with
 |const v =>
  refine zP (fun _ _=>rfl) fun sc sm e q=>?_
  refine jJ q fun c n' p k=>?_
  exact qt (Ym k) (fun _ _=>rfl) (fun _ _=>rfl) (fun z=>nomatch z)
 |gconst v =>
  refine zP (fun _ _=>rfl) fun sc sm e q=>?_
  refine zD q fun x p k=>?_
  exact qt (W1 (G' sc sm) k) (fun _ _=>rfl) (fun _ _=>rfl) (fun z=>nomatch z)
 |loc i =>
  refine zP (fun _ _=>rfl) fun sc sm e q=>?_
  refine zD q fun x p k=>?_
  exact qt (Gy k) (fun _ _=>rfl) (fun _ _=>rfl) (fun z=>nomatch z)
 |bin op a b ia ib =>
  refine zP (fun _ _=>rfl) fun sc sm e q=>?_
  refine V6 q fun l o r p k=>?_
  refine ad3 k fun q0 q1 q2=>?_
  refine deq q0 ?_
  exact SR.e3 (Ye (op:=op) ((ia sc sm).1 _ q1).E ((ib sc sm).1 _ q2).E) rfl (fun _ _=>rfl) (fun _ _=>rfl)
 |un op a ia =>
  refine zP (fun _ _=>rfl) fun sc sm e q=>?_
  refine YE q fun o x p k=>?_
  refine ad2 k fun q0 q1=>?_
  refine deq q0 ?_
  have h:=(ia sc sm).1 _ q1
  refine ⟨Tu h.E,?_,fun _ _=>rfl,fun z=>nomatch z⟩
  clear k q q0;cases op with
  |Not=>exact Gn h.T
  | _=>exact ST.plain (Tu h.E) fun _ _=>rfl
 |and a b ia ib =>
  refine zP (fun _ _=>rfl) fun sc sm e q=>?_
  refine J9 q fun o es p k=>?_
  refine ad2 k fun k1 k2=>?_
  refine eqr (Vg k1) ?_
  refine WI k2 fun x y r k'=>?_
  refine ad2 k' fun k1 k2=>?_
  have h1:=(ia sc sm).1 _ k1
  have h2:=(ib sc sm).1 _ k2
  exact ⟨GA h1.E h2.E,Gp h1.T h2.T,fun _ _=>rfl,fun z=>nomatch z⟩
 |or a b ia ib =>
  refine zP (fun _ _=>rfl) fun sc sm e q=>?_
  refine J9 q fun o es p k=>?_
  refine ad2 k fun k1 k2=>?_
  refine eqr (Xg k1) ?_
  refine WI k2 fun x y r k'=>?_
  refine ad2 k' fun k1 k2=>?_
  have h1:=(ia sc sm).1 _ k1
  have h2:=(ib sc sm).1 _ k2
  exact ⟨Hy h1.E h2.E,Hu h1.T h2.T,fun _ _=>rfl,fun z=>nomatch z⟩
 |cmp op a b ia ib =>
  refine zP (fun _ _=>rfl) fun sc sm e q=>?_
  refine Q9 q fun l os rs p k=>?_
  refine jo k fun o k'=>?_
  refine jo k' fun r k''=>?_
  refine ad4 k'' fun q0 q1 q2 q3=>?_
  revert q3;refine deq q0 fun q3=>?_
  have h1:=(ia sc sm).1 _ q1
  have h2:=(ib sc sm).1 _ q2
  exact ⟨Gz (bn q3) h1.E h2.E,Go (bn q3) h1.E h2.E,fun _ _=>rfl,fun z=>nomatch z⟩
 |cmp2 o₁ o₂ a b c ia ib ic =>
  refine zP (fun _ _=>rfl) fun sc sm e q=>?_
  refine Q9 q fun l os rs p k=>?_
  refine JL k fun p1 p2 k'=>?_
  refine JL k' fun r1 r2 k''=>?_
  refine ad6 k'' fun q0 q0' q1 q2 q3 q4=>?_
  revert q4;refine deq q0 ?_
  refine deq q0' fun q4=>?_
  have h1:=(ia sc sm).1 _ q1
  have h2:=(ib sc sm).1 _ q2
  have h3:=(ic sc sm).1 _ q3
  exact ⟨Uq (bn q4) h1.E h2.E h3.E,Uj (bn q4) h1.E h2.E h3.E,fun _ _=>rfl,fun z=>nomatch z⟩
 |isinst t a ia =>
  refine zP (fun _ _=>rfl) fun sc sm e q=>?_
  refine yK q fun x p es p' k=>?_
  refine JL k fun y zz k'=>?_
  refine zD k' fun z p2 k''=>?_
  refine ad4 k'' fun q1 q2 q3 q4=>?_
  exact qt (W0 (G' sc sm) q1 q2 (bn q4) ((ia sc sm).1 _ q3).E) (fun _ _=>rfl) (fun _ _=>rfl) (fun z=>nomatch z)
 |call f args ia =>
  refine zP (fun _ _=>rfl) fun sc sm e q=>?_
  refine yK q fun x p es p' k=>?_
  refine ad2 k fun k1 k2=>?_
  have h:=(ia sc sm).2.1 _ k2
  exact qt (Ur (G' sc sm) (cs' sc sm) k1 h.ns h.ss) (fun _ _=>rfl) (fun _ _=>rfl) (fun z=>nomatch z)
 |bi b args ia =>
  refine zP (fun _ _=>rfl) fun sc sm e q=>?_
  refine yK q fun x p es p' k=>?_
  refine ad2 k fun k1 k2=>?_
  have h:=(ia sc sm).2.1 _ k2
  exact SR.e3 (Hw (G' sc sm) k1 h.ns h.ss) rfl (fun _ _=>rfl) (fun _ _=>rfl)
 |meth m o args io ia =>
  refine zP (fun _ _=>rfl) fun sc sm e q=>?_
  refine qa q fun f es pos k=>?_
  exact qt (fun _ p=>p.elim) (fun _ _=>rfl) (fun _ _=>rfl) (fun z=>nomatch z)
 |lst a ia =>
  refine zP (fun _ _=>rfl) fun sc sm e q=>?_
  refine kB q fun l p k=>?_
  have h:=(ia sc sm).2.1 _ k
  refine qt (Yl h.ss) (fun _ _=>rfl) (fun _ _=>rfl) fun z=>Yd ?_ h.ss
  have z:(cls (S.at sc sm).g.sh a).isI=true:=z
  show cls (S.at sc sm).g.sh a=.i
  generalize cls (S.at sc sm).g.sh a=c at z
  cases c <;> first | rfl | cases z
 |tup a ia =>
  refine zP (fun _ _=>rfl) fun sc sm e q=>?_
  refine v6 q fun l c p k=>?_
  exact qt (Gw ((ia sc sm).2.1 _ k).ss) (fun _ _=>rfl) (fun _ _=>rfl) (fun z=>nomatch z)
 |sub a b ia ib =>
  refine zP (fun _ _=>rfl) fun sc sm e q=>?_
  refine v7 q fun l r p k=>?_
  refine ad3 k fun q1 q2 q3=>?_
  exact qt (Gx (bn q3) ((ia sc sm).1 _ q1).E ((ib sc sm).1 _ q2).E) (fun _ _=>rfl) (fun _ _=>rfl) (fun z=>nomatch z)
 |slice a lo hi ia il ih =>
  refine zP (fun _ _=>rfl) fun sc sm e q=>?_
  refine v7 q fun l r p k=>?_
  refine W6 k fun x y z p2 k'=>?_
  refine ad2 k' fun q0 k'=>?_
  refine ad3 k' fun q1 q2 q3=>?_
  refine eqr (isNone_iff_eq_none.mp q0) ?_
  exact SR.e3 (Yc ((ia sc sm).1 _ q1).E (((il sc sm).2.1 _ q2).O _ rfl) (((ih sc sm).2.1 _ q3).O _ rfl)) rfl (fun _ _=>rfl) (fun _ _=>rfl)
 |comp elt tgt it cond ie _ ii ic=>exact zP (fun _ _=>rfl) fun sc sm e q=>(xN noX (fun sc sm e q=>SE.el ((ie sc sm).1 _ q).E) ii ic q).e3 rfl
 |attr o k io =>
  refine zP (fun _ _=>rfl) fun sc sm e q=>?_
  refine qG q fun eo nm p k'=>?_
  refine ad5 k' fun q1 q0 q2 q3 q4=>?_
  refine eqr (of_decide_eq_true q0) ?_
  revert q4;refine zD q3 fun x px q5 q4=>?_
  exact qt (Us (G' sc sm) q1 (of_decide_eq_true q2) ((io sc sm).1 _ q4).E) (fun _ _=>rfl) (fun _ _=>rfl) (fun z=>nomatch z)
 |mcall f o args io ia =>
  refine zP (fun _ _=>rfl) fun sc sm e q=>?_
  refine qa q fun fe es pos k=>?_
  refine qG k fun eo nm apos k'=>?_
  refine ad8 k' fun q1 q2 q3 q4 q5 q6 q7 q8=>?_
  revert q5;refine zD q4 fun x px q0 q5=>?_
  have h:=(ia sc sm).2.1 _ q6
  exact qt (Yk (G' sc sm) (cs' sc sm) q1 (beq_iff_eq.mp q2) (fun z=>no4 ((contains_iff_mem.mpr z).symm.trans (bn q3))) q7 (of_decide_eq_true q8) h.ns ((io sc sm).1 _ q5).E h.ss) (fun _ _=>rfl) (fun _ _=>rfl) (fun z=>nomatch z)
 |newT f =>
  refine zP (fun _ _=>rfl) fun sc sm e q=>?_
  refine yK q fun x p es p' k=>?_
  exact qt (fun _ p=>p.elim) (fun _ _=>rfl) (fun _ _=>rfl) (fun z=>nomatch z)
 |compp elt i j a cond ie ia ic=>exact zP (fun _ _=>rfl) fun sc sm e q=>(KI ie ia ic q).e3 rfl
 |compq elt i j a b ie ia ib=>exact zP (fun _ _=>rfl) fun sc sm e q=>(KH G ie ia ib q).e3 rfl
 |nil =>
  intro sc sm
  refine ⟨fun e q=>no3 q,fun es q=>?_,fun e q=>no3 q⟩
  have:es=[]:=isEmpty_iff.mp q
  clear cs';subst this
  refine ⟨Yb,fun e he=>(not_mem_nil he).elim,fun x hx=>?_⟩
  cases x with
  |none=>exact Gr
  |some e=>exact no8 hx
 |cons a b ia ib =>
  intro sc sm
  refine ⟨fun e q=>no3 q,fun es q=>?_,fun e q=>no3 q⟩
  clear cs';cases es with
  |nil=>exact no3 q
  |cons e r =>
   have q:((chk g a sc sm).E e&&!zI e&&(chk g b sc sm).Es r)=true:=q
   refine ad3 q fun q1 q2 q3=>?_
   replace q2:=bn q2
   have h1:=(ia sc sm).1 _ q1
   have h2:=(ib sc sm).2.1 _ q3
   refine ⟨QV q2 h1.E h2.ss,fun y hy=>?_,fun x hx=>?_⟩
   ·rcases mem_cons.mp hy with rfl | hy
    ·exact q2
    ·exact h2.ns y hy
   ·clear h2;cases x with
    |none=>exact no7 hx
    |some e' =>
     cases hx
     cases b <;> first | exact Um h1.E | exact no3 q3
 |irange a ia =>
  intro sc sm
  refine ⟨fun e q=>no3 q,fun es q=>no3 q,fun e q=>?_⟩
  refine yK q fun x p es p' k=>?_
  refine jo k fun y k'=>?_
  refine ad3 k' fun q1 q2 q3=>?_
  exact Yi (G' sc sm) q1 (bn q3) ((ia sc sm).1 _ q2).E
 |irange2 a b ia ib =>
  intro sc sm
  refine ⟨fun e q=>no3 q,fun es q=>no3 q,fun e q=>?_⟩
  refine yK q fun x p es p' k=>?_
  refine JL k fun y z k'=>?_
  refine ad5 k' fun q1 q2 q3 q4 q5=>?_
  exact WY (G' sc sm) q1 (bn q4) (bn q5) ((ia sc sm).1 _ q2).E ((ib sc sm).1 _ q3).E
 |iobj a ia =>
  intro sc sm
  refine ⟨fun e q=>no3 q,fun es q=>no3 q,fun e q=>?_⟩
  have h:=(ia sc sm).1 _ (show (chk g a sc sm).E e=true from q)
  exact Gv h.fs h.E
end
section
variable {S:Su} {f:Fr} {ρ ρ':VS} {o o':Own} {s:Shared} {h h':Heap} {P:Lbs}
variable {α β γ δ:Type} {V:Own->Heap->α->β->Prop} {W:Own->Heap->γ->δ->Prop} {Q:β->Shared->Prop} {Q':δ->Shared->Prop}
theorem wi {x:Nat} {p:List Nat} (l:x<bB):¬ fl (some (x,p)):=fun q=>by
 rcases q with q | q <;> (cases q;exact absurd l (by decide))
theorem Qz {x:Nat} {p:List Nat} (l:x<bB):¬ frE (some (x,p)):=fun q=>by
 rcases q with (q | q | q) | q <;> (cases q;try exact absurd l (by decide))
theorem VL.lt {B:Heap} {g:Sg} {vs:List Value} {u:List (Option Value)} {x:Nat} {t:Tr} (r:VL B g vs o ρ u h) (e:ρ[x]?=some (some t)):x<bB:=lt_of_lt_of_le (List.getElem?_eq_some_iff.mp e).1 r.small
theorem QX {g:Sg} {j:Nat} {s:Sh} (e:g.ps[j]?=some s):g.sh.getD j .i=s:=by
 unfold Sg.sh
 rw [getD_eq_getElem?_getD,getElem?_append_left (List.getElem?_eq_some_iff.mp e).1,e];rfl
theorem qx {x:Nat} {s:Sh} {p:List Nat} {a:Addr} (e:s.own=true):cO o x s p a=cL o x s p a:=by
 cases s <;> first | rfl | exact no3 e
theorem yS {l:Option (Nat × List Nat)} {b:Bool} {xp:Nat × List Nat} (e:l=cond b (some xp) none):l=none\/l=some xp:=by
 cases b
 ·exact .inl e
 ·exact .inr e
theorem CxS.io (c:CxS S f ρ o h):IO S f ρ o h:=⟨c.cx.flo,c.kl,fun j s e q=>by
 refine ob12 c.vl fun u _ r=>?_
 refine ob23 (r.par j s e q) fun t v e1 e2 e3=>?_
 refine ob12 (r.get j t e1) fun v' e4 r'=>?_
 rw [e3] at e4;clear c r e3;cases e4
 rw [QX e] at r'
 exact ⟨t,v,e1,e2,r'.to fun p a z=>by rw [qx q] at z;exact z⟩⟩
theorem IO.base {base:Heap} (i:IO S f ρ o h) (sm:ρ.length<=bB) (k:∀ b ob,look h b=some ob->¬ fl (o b)->look base b=some ob):IO S f ρ o base:=⟨i.1,i.2.1,fun j s e q=>by
 refine ob23 (i.2.2 j s e q) fun t v e1 e2 r=>?_
 refine ⟨t,v,e1,e2,r.mono fun p a ob z e=>⟨z,k a ob e fun y=>?_⟩⟩
 have l:=lt_of_lt_of_le (List.getElem?_eq_some_iff.mp e1).1 sm
 clear base i sm k e q t v e1 e2 r;rcases yS z with z | z
 ·rw [z] at y;clear base e ob;rcases y with y | y <;> exact no1 y
 ·rw [z] at y;exact wi l y⟩
theorem Pv.on {x:Ex α} (c:CxS S f ρ o s.heap) (p:Pv S f P V o Q s (x.on ρ)):Po S f o (V o) Q s x:=by
 cases x with
 |ok a=>exact fun w h' tk r g v=>p o w h' tk (c.grow r g) (zA.step g) v
 |exc e =>
  intro o' h' tk a base r xc z st x
  have z:o'=o:=z
  subst z
  refine ob12 c.vl fun u _ vl=>?_
  exact p o' h' tk a base r xc (c.io.base vl.small fun b ob e n=>st.based b ob trivial e (.inr n)) st.ofAll x
 |stuck=>exact p
theorem Pv.step {x:VR α} {tk:Nat} (p:Pv S f P V o Q s x) (st:zC P o o' s.heap h'):Pv S f P V o' Q (up s h' tk) x:=by
 cases x with
 |ok a ρ'=>exact fun o2 w h2 tk2 c st2 v=>p o2 w h2 tk2 c (st.trans st2) v
 |exc c ρ'=>exact PX.step p st
 |stuck=>exact p
theorem Pv.bind {r:VR γ} {k:γ->VS->VR α} (p:Pv S f P V o Q s (r.bind k))
  (K:∀ a ρ' o' w h1 tk,CxS S f ρ' o' h1->zC P o o' s.heap h1->W o' h1 a w->Pv S f P V o' Q (up s h1 tk) (k a ρ')->Q' w (up s h1 tk)):Pv S f P W o Q' s r:=by
 cases r with
 |ok a ρ'=>exact fun o' w h1 tk c st v=>K a ρ' o' w h1 tk c st v (Pv.step (x:=k a ρ') p st)
 |exc c ρ'=>exact p
 |stuck=>exact p
theorem Pv.onB {x:Ex γ} {k:γ->VS->VR α} (c:CxS S f ρ o s.heap) (p:Pv S f P V o Q s ((x.on ρ).bind k))
  (K:∀ a w h1 tk,HB S.B o h1->zA s.heap h1->W o h1 a w->Pv S f P V o Q (up s h1 tk) (k a ρ)->Q' w (up s h1 tk)):Po S f o (W o) Q' s x:=by
 cases x with
 |ok a=>exact fun w h1 tk r g v=>K a w h1 tk r g v (Pv.step (x:=k a ρ) p (zA.step g))
 |exc e=>exact Pv.on (x:=.exc e) (V:=V) (Q:=Q) c p
 |stuck=>exact p
theorem Pv.here {a:α} {w:β} {tk:Nat} (c:CxS S f ρ o s.heap) (p:Pv S f P V o Q s (.ok a ρ)) (v:V o s.heap a w):Q w (up s s.heap tk):=p o w s.heap tk c zC.refl v
theorem Pv.here' {a:α} {w:β} (c:CxS S f ρ o s.heap) (p:Pv S f P V o Q s (.ok a ρ)) (v:V o s.heap a w):Q w s:=p o w s.heap s.toks c zC.refl v
theorem Pv.opt {x:Option γ} {k:γ->VR α} (p:Pv S f P V o Q s (VR.opt x k)):∃ a,x=some a/\Pv S f P V o Q s (k a):=by
 cases x with
 |none=>exact p.elim
 |some a=>exact ⟨a,rfl,p⟩
theorem Pv.cond {b:Bool} {x:VR α} (p:Pv S f P V o Q s (cond b x .stuck)):b=true/\Pv S f P V o Q s x:=by
 cases b with
 |true=>exact ⟨rfl,p⟩
 |false=>exact p.elim
theorem Pv.ite {c:Prop} [Decidable c] {x:VR α} (p:Pv S f P V o Q s (if c then x else .stuck)):c/\Pv S f P V o Q s x:=by
 by_cases q:c
 ·rw [if_pos q] at p;exact ⟨q,p⟩
 ·rw [if_neg q] at p;exact p.elim
theorem Pv.to {V':Own->Heap->α->β->Prop} {x:VR α} (p:Pv S f P V o Q s x) (k:∀ o h a b,V' o h a b->V o h a b):Pv S f P V' o Q s x:=by
 cases x with
 |ok a ρ'=>exact fun o' w h' tk c st v=>p o' w h' tk c st (k _ _ _ _ v)
 | _=>exact p
theorem Pv.toE {x:VR α} (p:Pv S f frS V o Q s x):Pv S f frE V o Q s x:=by
 cases x with
 |ok a ρ'=>exact fun o' w h' tk c st v=>p o' w h' tk c st.toS v
 |exc c ρ'=>exact PX.toE p
 |stuck=>exact p
end
inductive RdP (B h:Heap) (u:Tr) (v:Value):List Nat->Cl->Tr->Value->Prop
 |nil {c:Cl}:Rd B h c u v->RdP B h u v [] c u v
 |cons {j:Nat} {q:List Nat} {c:Cl} {b:Addr} {k:K} {ts:List Tr} {vs:List Value} {t':Tr} {w':Value}:c [] b->jD B h c b k vs->vs.length=ts.length->(∀ i t v,ts[i]?=some t->vs[i]?=some v->Rd B h (fun p=>c (i::p)) t v) ->
   ts[j]?=some t'->vs[j]?=some w'->RdP B h u v q (fun p=>c (j::p)) t' w'->RdP B h u v (j::q) c (.nd k ts) (.ref b)
section
variable {B h h2:Heap} {a:Addr} {u u':Tr} {v:Value} {q:List Nat} {c:Cl} {t:Tr} {w:Value}
theorem RdP.grow (g:zA h h2) (r:RdP B h u v q c t w):RdP B h2 u v q c t w:=by
 induction r with
 |nil r=>exact .nil (r.grow g)
 |cons e3 e4 e5 e6 e7 e8 _ ih=>exact .cons e3 (e4.mono e3 fun _ _ _ y z=>⟨y,g _ _ z⟩) e5 (fun i t v a b=>(e6 i t v a b).grow g) e7 e8 ih
theorem RdP.get (r:RdP B h u v q c t w):Km q t=some u/\Rd B h (fun p=>c (q++p)) u v:=by
 induction r with
 |nil r=>exact ⟨rfl,r⟩
 |cons e3 e4 e5 e6 e7 e8 _ ih =>
  rename_i j q c b k ts vs t' w' _
  exact ⟨by show ts[j]?.bind (Km q)=_;rw [e7];exact ih.1,ih.2⟩
theorem RdP.upd (keep:∀ b ob,b≠a->look h b=some ob->look h2 b=some ob) (nl:∀ m,¬ h.Ns1 a m) (r:RdP B h u (.ref a) q c t w):(∀ p,c p a->p=q)->Rd B h2 (fun p=>c (q++p)) u' (.ref a)->Rd B h2 c (vV q u' t) w:=by
 induction r with
 |nil r=>exact fun _ n=>n
 |cons e3 e4 e5 e6 e7 e8 _ ih =>
  intro one n
  rename_i j q c b k ts vs t' w' _
  have nb:b≠a:=fun q1=>by subst q1;exact nomatch one _ e3
  have ko:jD B h2 c b k vs:=by
   cases k with
   |inst =>
    refine ob12 e4 fun dx z1 z2=>?_
    refine ⟨dx,z1,z2.mono (fun ob=>keep b ob nb) fun ob=>keep dx ob fun z=>?_⟩
    refine ob27 z2 fun _ m _ _ _ _ _ z3 _=>?_
    exact nl m (z▸z3)
   | _=>exact e4.imp id fun z=>z.imp fun n z=>zx (keep b _ nb (zV z zj)) zj
  refine .nd e3 ko (by rw [length_modify];exact e5) fun i t v q1 q2=>?_
  by_cases ij:j=i
  ·clear nl nb ko;subst ij
   rw [getElem?_modify_eq,e7] at q1
   obtain rfl:=sj q1
   obtain rfl:=sj (e8.symm.trans q2)
   exact ih (fun p hp=>(List.cons.inj (one _ hp)).2) n
  ·rw [getElem?_modify_ne _ _ ij] at q1
   exact (e6 i t v q1 q2).mono fun p b' ob f1 f2=>⟨f1,keep _ _ (fun z=>ij (by clear keep nl n nb q1 ko v q2;subst z;exact ((List.cons.inj (one _ f1)).1).symm)) f2⟩
end
theorem ur:∀ {s:Sh} {q:List Nat},s.leaf q=true->s.own=true/\s.mem q=true/\∀ j p,s.mem (q++j::p)=false
 | .L s,[],e=>by
  cases s with
  |i=>exact ⟨rfl,rfl,fun _ _=>rfl⟩
  | _=>cases e
 | .L s,_::q,e=>by
  refine yP (ur (s:=s) (q:=q) e) fun _ h2 h3=>?_
  exact ⟨rfl,h2,h3⟩
 | .T,[],e=>nomatch e
 | .T,k::q,e=>by
  refine zc (and_eq_true_iff.mp (show (Nat.beq k 2&&q.isEmpty)=true from e)) fun e1 e2=>?_
  cases q with
  |cons=>exact no3 e2
  |nil=>exact ⟨rfl,by show (Nat.beq k 2||Nat.beq k 3)&&true=true;rw [e1];rfl,fun j p=>by show ((Nat.beq k 2||Nat.beq k 3)&&false)=false;rw [Bool.and_false]⟩
 | .i,_,e=>nomatch e
 | .b,_,e=>nomatch e
 | .u,_,e=>nomatch e
 | .D,q,e=>by
  have z:∀ {q:List Nat},q.isEmpty=true->q=[]:=isEmpty_iff.mp
  cases q with
  |nil=>exact no3 e
  |cons k q=>match k,e with
   | 0,e=>cases q with
    |nil=>exact no3 e
    |cons i q=>cases z (show q.isEmpty=true from e);exact ⟨rfl,rfl,fun _ _=>rfl⟩
   | 1,e=>cases z (show q.isEmpty=true from e);exact ⟨rfl,rfl,fun _ _=>rfl⟩
section
variable {S:Su} {f:Fr} {ρ:VS} {o o':Own} {s:Shared} {h h':Heap} {u:List (Option Value)}
theorem QN {x:Nat} {s:Sh} {p:List Nat} {a:Addr} (e:o' a=o a):cO o' x s p a=cO o x s p a:=by
 cases s with
 |b=>exact Ws e
 | _=>show (o' a=_)=(o a=_);rw [e]
theorem VL.lab {B:Heap} {g:Sg} {vs:List Value} (r:VL B g vs o ρ u h) (k:∀ b ob,look h b=some ob->look h' b=some ob/\o' b=o b):VL B g vs o' ρ u h' :=
 ⟨r.len,r.small,fun x t e=>let ⟨v,e1,r⟩:=r.get x t e;⟨v,e1,r.mono fun p' a ob f1 f2=>⟨by rw [QN (k a ob f2).2];exact f1,(k a ob f2).1⟩⟩,r.par⟩
theorem CxS.next {ρ':VS} (c:CxS S f ρ o h) (st:zC frE o o' h h') (r:HB S.B o' h') (fl:yH o') (kl:KL S f o') (b:Bnd f.env S.sm u h) (v:VL S.B S.g f.vs o' ρ' u h'):CxS S f ρ' o' h' :=
 have k:=c.lab.kept st
 have b':Bnd f.env S.sm u h':=fun x i v a z e=>(b x i v a z e).kept k
 ⟨⟨c.cx.scope,c.cx.ok,c.cx.frm.at k,Cx.ofVL b' v,r,fl,c.cx.frames,c.cx.fok.step st,c.cx.here,c.cx.apart⟩,c.lab.step c.cx.frm st,kl,u,b',v⟩
theorem KL.lab (kl:KL S f o) (r:HB S.B o h) (k:∀ b ob,look h b=some ob->o' b=o b):KL S f o':=fun a j p e l lb=>by
 have e1:=kl a j p e l lb
 refine zc (r.own a (by rw [e1];exact fun z=>nomatch z)) fun _ wz9=>?_;obtain ⟨ob,e2⟩:=wz9
 exact (k a _ (zm e2)).trans e1
theorem CxS.relab (c:CxS S f ρ o h) (k:∀ b ob,look h b=some ob->look h' b=some ob/\o' b=o b) (r:HB S.B o' h') (fl:yH o'):CxS S f ρ o' h' :=
 let ⟨_,b,v⟩:=c.vl
 c.next (fun b ob _ e=>k b ob e) r fl (c.kl.lab c.cx.rel fun b ob e=>(k b ob e).2) b (v.lab k)
theorem HB.set {B:Heap} {P:Addr->Prop} (r:HB B o h) (oz:∀ z,P z->o z≠none) (keep:∀ b ob,¬ P b->h.get? b=some ob->h'.get? b=some ob) (al:∀ z,P z->∃ ob,h'.get? z=some ob):HB B o h' :=
 ⟨fun b ob e=>keep b ob (fun y=>by rw [(r.own b (oz b y)).1] at e;clear oz;exact no1 e) (r.base b ob e),fun a n=>⟨(r.own a n).1,by
  by_cases y:P a
  ·exact al a y
  ·exact (r.own a n).2.imp fun ob e=>keep a ob y e⟩⟩
theorem CxS.set {x:Nat} {P:Addr->Prop} {t t':Tr} {w:Value} (c:CxS S f ρ o h) (b:Bnd f.env S.sm u h) (r:VL S.B S.g f.vs o ρ u h) (e:ρ[x]?=some (some t)) (ew:u[x]?=some (some w)) (oz:∀ z,P z->∃ q,o z=some (x,q))
  (keep:∀ b ob,¬ P b->h.get? b=some ob->h'.get? b=some ob) (al:∀ z,P z->∃ ob,h'.get? z=some ob) (n:Rd S.B h' (cO o x (S.g.sh.getD x .i)) t' w):CxS S f (ρ.set x (some t')) o h'/\zC frE o o h h':=by
 have xb:=r.lt e
 have st:zC frE o o h h':=fun b ob q e=>⟨zb (fun ob e=>keep b ob (fun y=>by refine ob11 (oz b y) fun p z=>?_;rw [z] at q;exact Qz xb q) e) e,rfl⟩
 refine ⟨c.next st (c.cx.rel.set (fun z y=>by refine ob11 (oz z y) fun p z=>?_;rw [z];exact fun w=>nomatch w) keep al) c.cx.flo c.kl b ⟨by rw [length_set];exact r.len,by rw [length_set];exact r.small,fun y t2 e2=>?_,fun j s z1 z2=>?_⟩,st⟩
 ·by_cases xy:x=y
  ·clear al st set;subst xy
   rw [getElem?_set_self (List.getElem?_eq_some_iff.mp e).1] at e2
   cases e2
   exact ⟨w,ew,n⟩
  ·rw [getElem?_set_ne xy] at e2
   refine ob12 (r.get y t2 e2) fun v z1 z2=>?_
   refine ⟨v,z1,z2.mono fun p b ob f1 f2=>⟨f1,zb (fun ob e=>keep b ob (fun y'=>?_) e) f2⟩⟩
   refine ob11 (oz b y') fun q oz=>?_
   have z3:∀ c:Bool,o b=cond c (some (y,p)) none->False:=fun c e=>by
    clear w ew keep al n st set e2 f2 y';rcases yS e with e | e <;> (rw [oz] at e;cases e)
    exact xy rfl
   clear w c ew keep al n st set e2 f2 y';revert f1;cases S.g.sh.getD y .i with
   |b=>intro f1;exact Qz xb (.inl (show frS (some (x,q)) by rw [<- oz];exact f1))
   | _=>intro f1;exact z3 _ f1
 ·refine ob23 (r.par j s z1 z2) fun t1 v1 y1 y2 y3=>?_
  by_cases xy:x=j
  ·clear w c b r ew oz keep al n xb st set s z1 z2;subst xy;exact ⟨t',v1,by rw [getElem?_set_self (List.getElem?_eq_some_iff.mp e).1],y2,y3⟩
  ·exact ⟨t1,v1,by rw [getElem?_set_ne xy];exact y1,y2,y3⟩
theorem kz {x:Nat} {q:List Nat} {t u':Tr} (e:ρ[x]?=some (some t)):qE (x,q) u' ρ=ρ.set x (some (vV q u' t)):=by
 unfold qE
 apply ext_getElem?
 intro i
 by_cases xi:x=i
 ·subst xi
  rw [getElem?_modify_eq,e,getElem?_set_self (List.getElem?_eq_some_iff.mp e).1];rfl
 ·rw [getElem?_modify_ne _ _ xi,getElem?_set_ne xi]
noncomputable def qC (S:Su) (f:Fr) (ρ:VS) (o:Own):Heap->Nat × List Nat->Value->Prop:=fun h xq v =>
 ∃ u t w t',Bnd f.env S.sm u h/\VL S.B S.g f.vs o ρ u h/\ρ[xq.1]?=some (some t)/\u[xq.1]?=some (some w)/\RdP S.B h t' v xq.2 (cO o xq.1 (S.g.sh.getD xq.1 .i)) t w
theorem qC.grow {xq:Nat × List Nat} {v:Value} (p:qC S f ρ o h xq v) (g:zA h h'):qC S f ρ o h' xq v :=
 let ⟨u,t,w,t',b,r,e1,e2,e3⟩:=p
 ⟨u,t,w,t',fun x i v a z e=>(b x i v a z e).kept fun b ob _ e=>g b ob e,r.grow g,e1,e2,e3.grow g⟩
end
end Mine
namespace Mine
open PySem PySem.SeqAt
noncomputable def Xa (m:Me):String:=match m with
 | .append=>"list.append"
 | .pop=>"list.pop"
 | .insert=>"list.insert"
theorem xQ {h:Heap} {a:Addr} {f:Obj->Obj}:∀ b x,b≠a->h.get? b=some x->(h.update a f).get? b=some x:=fun _ _ nb e=>(Heap.get?_update_other _ _ (Ne.symm nb)).trans e
theorem KZ {h:Heap} {a:Addr} {ys ys':List Value} {m:Nat} {f:Array Value->Array Value} (g:h.get? a=some (zf ys m)) (hf:f ys.toArray=ys'.toArray):∃ n,(h.update a (Obj.mapSeq f)).get? a=some (zf ys' n) :=
 ⟨if (f ys.toArray).size==ys.toArray.size then m else m+1,by
  rw [Heap.get?_update_self _ g rfl]
  simp only [Obj.mapSeq,hf]⟩
theorem A2.erase {α β:Type} {R:α->β->Prop} {ts:List α} {vs:List β} (j:Nat) (h:A2 R ts vs):A2 R (ts.eraseIdx j) (vs.eraseIdx j):=by
 rw [eraseIdx_eq_take_drop_succ,eraseIdx_eq_take_drop_succ];exact (h.take _).append (h.drop _)
section
variable {S:Su} {f:Fr} {ρ:VS} {o o':Own} {s:Shared} {h h':Heap} {u:List (Option Value)} {A:Around} {E:Value->Shared->Prop}
theorem TS {m:Me} {a:Addr} {ts as ts':List Tr} {ys bs:List Value} {n:Nat} {rt:Tr} {Q:Value->Shared->Prop} (g:s.heap.get? a=some (zf ys n)) (ly:ys.length<=1048576) (q:A2 (Rd S.B s.heap (imm o)) ts ys) (p:A2 (Rd S.B s.heap (imm o)) as bs) (z:Ab m ts as=some (rt,ts'))
  (k:∀ v ys' h' tk,(∀ b ob,b≠a->s.heap.get? b=some ob->h'.get? b=some ob)->(∃ n,h'.get? a=some (zf ys' n))->ys'.length<=lim->A2 (Rd S.B s.heap (imm o)) ts' ys'->Rd S.B s.heap (imm o) rt v->Q v (up s h' tk)):wpAny S.M A (call (.builtin (Xa m)) (.ref a::bs)) Q E s:=by
 have ll:=q.len
 have K:∀ v (ys':List Value) (f:Array Value->Array Value),f ys.toArray=ys'.toArray->ys'.length<=lim->A2 (Rd S.B s.heap (imm o)) ts' ys'->Rd S.B s.heap (imm o) rt v->Q v { s with heap:=s.heap.update a (Obj.mapSeq f),toks:=s.toks }:=fun v ys' f hf l a r=>k v ys' _ s.toks xQ (KZ g hf) l a r
 clear k;cases m with
 |append =>
  cases as with
  |nil=>exact no1 z
  |cons t as =>
   refine ob23 p fun b bs ez0x2 p1 p2=>?_;clear p;subst ez0x2
   cases as with
   |cons=>exact no1 z
   |nil =>
    cases (show bs=[] from p2)
    have z:(if ts.length<lim then some (Tr.sc .none,ts++[t]) else none)=some (rt,ts'):=z
    by_cases l:ts.length<lim
    ·obtain ⟨rfl,rfl⟩:=pj (sj (Eq.trans (Eq.symm (if_pos l)) z))
     refine call_meets F.slot_list_append ⟨_,g,rfl⟩ F.entry_list_append (F.args_list_append_2 _ _) (list_append a ys.toArray n b (by simp;show _<=2 ^ 24;omega)) ⟨g,?_⟩
     exact K .none (ys++[b]) _ (by simp) (by rw [length_append,ll];exact l) (q.append (.one p1)) (.sc rfl)
    ·exact no1 (Eq.trans (Eq.symm (if_neg l)) z)
 |pop =>
  cases as with
  |nil =>
   cases (show bs=[] from p)
   refine ob12 (map_eq_some_iff.mp (show ts.getLast?.map (fun t=>(t,ts.dropLast))=some (rt,ts') from z)) fun t z1 z2=>?_
   obtain ⟨rfl,rfl⟩:=pj z2
   rw [List.getLast?_eq_getElem?] at z1
   refine ob12 (q.get z1) fun v z3 z4=>?_
   refine call_meets F.slot_list_pop ⟨_,g,rfl⟩ F.entry_list_pop (F.args_list_pop_1 _) (MeetsSeq.list_pop_last a ys.toArray n v (by simpa [ll] using z3) (by simp;show _<=2 ^ 24;omega)) ⟨g,?_⟩
   refine K v ys.dropLast _ ?_ (by rw [List.length_dropLast];exact Nat.le_trans (sub_le _ _) ly) (by rw [dropLast_eq_take,dropLast_eq_take,q.len];exact q.take _) z4
   rw [dropLast_eq_take,show ys.take (ys.length-1)=ys.eraseIdx (ys.length-1) by rw [eraseIdx_eq_take_drop_succ,List.drop_eq_nil_of_le (by (first | exact DC | omega)),append_nil]];simp
  |cons t as =>
   refine ob23 p fun b bs ez3x2 p1 p2=>?_;clear p;subst ez3x2
   cases as with
   |cons=>exact no1 z
   |nil =>
    cases (show bs=[] from p2)
    refine ob23 (yD p1 z) fun k' t' ez4x2 ez4x3 z=>?_;subst ez4x2;subst ez4x3
    refine ob12 (bind_eq_some_iff.mp z) fun j z1 z2=>?_
    refine ob12 (map_eq_some_iff.mp z2) fun t z3 z4=>?_
    clear z2;obtain ⟨rfl,rfl⟩:=pj z4
    refine ob12 (q.get z3) fun v z5 z6=>?_
    refine Kb (xJ z1) fun i1 i2 i3 i4=>?_
    refine call_meets F.slot_list_pop ⟨_,g,rfl⟩ F.entry_list_pop (F.args_list_pop_2 _ _) (MeetsSeq.list_pop_at a ys.toArray n k' t' j v (by simp [Builtin.List.listFitsIndex];(exact DB ly ll i3 i4)) (by simpa [ll] using i1) (by simpa using z5) (by simp;show _<=2 ^ 24;omega)) ⟨g,?_⟩
    exact K v (ys.eraseIdx j) _ (by simp) (Nat.le_trans (List.length_eraseIdx_le ys j) ly) (q.erase j) z6
 |insert =>
  cases as with
  |nil=>exact no1 z
  |cons t as =>
   refine ob23 p fun b bs ez9x2 p1 p2=>?_;clear p;subst ez9x2
   cases as with
   |nil=>exact no1 z
   |cons u as =>
    obtain ⟨c,bs,rfl,p2,p3⟩:=p2
    cases as with
    |cons=>exact no1 z
    |nil =>
     cases (show bs=[] from p3)
     obtain ⟨k',t',rfl,rfl,z⟩:=yD p1 z
     by_cases l:0<=k'/\k'<=ts.length/\ts.length<lim
     ·obtain ⟨rfl,rfl⟩:=pj (sj (Eq.trans (Eq.symm (if_pos l)) z))
      have lm:lim=1048576:=rfl
      refine call_meets F.slot_list_insert ⟨_,g,rfl⟩ F.entry_list_insert (F.args_list_insert_3 _ _ _) (AutoSeq1.list_insert_list_int_val_1 a ys.toArray n k' t' c (by simp [Builtin.List.listFitsIndex];(exact Ea l lm)) (by simp;show _<=2 ^ 24;omega)) ⟨g,?_⟩
      refine K .none (ys.take k'.toNat++c::ys.drop k'.toNat) _ ?_ (by simp;omega) ((q.take _).append ⟨c,_,rfl,p2,q.drop _⟩) (.sc rfl)
      have h0:¬ k'<0:=by exact AZ l
      simp only [h0,if_false]
      apply Array.toList_inj.mp
      have:min k'.toNat ys.length=k'.toNat:=by omega
      simp [this]
      exact List.take_of_length_le (by simp)
     ·rw [if_neg l] at z;clear n g q l p1 p2 p3;exact no1 z
theorem K6 {xq:Nat × List Nat} {v:Value} {ts:List Tr} (P:qC S f ρ o h xq v) (e:yB S.g.sh xq ρ=some ts) :
  ∃ a ws n,v=.ref a/\(S.g.sh.getD xq.1 .i).leaf xq.2=true/\o a=some xq/\h.get? a=some (zf ws n)/\ws.length<=lim/\A2 (Rd S.B h (imm o)) ts ws:=by
 unfold yB at e
 cases lf:(S.g.sh.getD xq.1 .i).leaf xq.2 with
 |false=>rw [lf] at e;exact no1 e
 |true =>
  rw [lf] at e
  refine yP (ur lf) fun l1 l2 l3=>?_
  refine ob12 (bind_eq_some_iff.mp (show (ρ[xq.1]?.bind fun o=>o.bind fun t=>(Km xq.2 t).bind Jk)=some ts from e)) fun x e1 e=>?_
  refine ob12 (bind_eq_some_iff.mp e) fun t e2 e=>?_
  refine ob12 (bind_eq_some_iff.mp e) fun t' e3 e4=>?_
  clear e;subst e2
  refine ob45 P fun u t2 w t3 b r z1 z2 z3=>?_;clear P
  rw [e1] at z1;clear e e1 r z2;cases z1
  obtain ⟨z4,z5⟩:=z3.get
  rw [e3] at z4;clear e e3 w z3;obtain rfl:=sj z4
  cases t' with
  |sc=>exact no1 e4
  |nd k us=>cases k with
   |lst =>
    obtain rfl:=sj e4
    refine ob25 z5.node fun a ws ez17x2 y1 wz17x4 y4 y5=>?_;clear z5;subst ez17x2;obtain ⟨y2,n,y3⟩:=wz17x4
    rw [append_nil,qx l1] at y1
    have y1:o a=cond _ _ none:=y1
    rw [l2] at y1
    refine ⟨a,ws,n,rfl,rfl,y1,y3,y2,A2.of y4 fun j t v q1 q2=>(y5 j t v q1 q2).to fun p b q=>?_⟩
    rw [qx l1] at q
    have q:o b=cond _ _ none:=q
    rw [l3] at q;exact q
   | _=>clear l1 l2 l3 t u b z5;exact no1 e4
theorem UH {a:Addr} {ys:List Value} {n:Nat} (g:h.get? a=some (zf ys n)) (m:Str->Option Value):¬ h.Ns1 a m:=fun ⟨_,_,_,e,d,_⟩=>by
 rw [g] at e;clear g;obtain rfl:=sj e;cases d
theorem Q3 {xq:Nat × List Nat} {a:Addr} {ts':List Tr} {ys ys':List Value} {n:Nat} (c:CxS S f ρ o h) (P:qC S f ρ o h xq (.ref a)) (lf:(S.g.sh.getD xq.1 .i).leaf xq.2=true) (oa:o a=some xq) (g:h.get? a=some (zf ys n))
  (keep:∀ b ob,b≠a->h.get? b=some ob->h'.get? b=some ob) (g':∃ n,h'.get? a=some (zf ys' n)) (l:ys'.length<=lim) (q:A2 (Rd S.B h (imm o)) ts' ys'):CxS S f (qE xq (.nd .lst ts') ρ) o h'/\zC frE o o h h':=by
 refine ob45 P fun u t w t' b r e1 e2 e3=>?_;clear P
 refine yP (ur lf) fun l1 l2 l3=>?_
 have kl:∀ b ob,b≠a->look h b=some ob->look h' b=some ob:=fun b ob n=>zb fun ob e=>keep b ob n e
 rw [show qE xq (.nd .lst ts') ρ=_ from kz e1]
 refine c.set (P:=fun b=>b=a) b r e1 e2 (fun z y=>⟨xq.2,y▸oa⟩) keep (fun z y=>let ⟨_,e⟩:=g';⟨_,y▸e⟩) (e3.upd kl (UH g) (fun p hp=>?_) (.nd ?_ ⟨l,g'⟩ q.len fun j t v z1 z2=>?_))
 ·rw [qx l1] at hp
  clear ys n c lf g keep g' l t w t' r e1 e2 e3;rcases yS hp with hp | hp
  ·exact no2 (oa.symm.trans hp)
  ·rw [oa] at hp;exact (congrArg Prod.snd (Option.some.inj hp)).symm
 ·rw [append_nil,qx l1]
  show o a=cond _ _ none
  rw [l2];exact oa
 ·refine (q.at z1 z2).mono fun p b ob f1 f2=>⟨?_,kl b ob (fun z=>?_) f2⟩
  ·rw [qx l1]
   show o b=cond _ _ none
   rw [l3];exact f1
  ·rw [z] at f1;exact nomatch oa.symm.trans f1
end
end Mine
namespace Mine
open PySem PySem.SeqAt
section
variable {S:Su} {f:Fr} {ρ:VS} {o:Own} {s:Shared} {g:yd} {F:Nat->Option zr} {mg mb:Str->Option Value}
noncomputable def SP (S:Su) (m:za) (e:Expr):Prop :=
 ∀ ⦃f:Fr⦄ ⦃ρ:VS⦄ ⦃o:Own⦄ ⦃s:Shared⦄ ⦃Q:Value->Shared->Prop⦄,CxS S f ρ o s.heap->Po S f o (qC S f ρ o) Q s (vP S.G S.g.sh S.C m ρ)->wpAny S.M f.A (eval e f.env) Q f.X.E s
theorem Po.locB {α γ:Type} {V:Heap->α->γ->Prop} {Q:γ->Shared->Prop} {i:Nat} {k:Tr->Ex α} (p:Po S f o V Q s ((yx i ρ).bind k)):∃ t,ρ[i]?=some (some t)/\Po S f o V Q s (k t):=by
 unfold yx at p
 revert p;cases ρ[i]? with
 |none=>intro p;exact p.elim
 |some x=>intro p;cases x with
  |none=>exact p.elim
  |some t=>exact ⟨t,rfl,p⟩
theorem Gq {i:Nat} {x:Str} {pos:Pos} (h:xP S.sc S.sm x i=true):SP S (.loc i) (.Name x pos):=fun f ρ o s Q c p=>by
 refine yP (ya h) fun h1 h2 h3=>?_
 refine ob12 (Po.locB p) fun t hv p=>?_
 refine ob12 c.vl fun u b r=>?_
 refine ob12 (r.get i t hv) fun v e1 e2=>?_
 exact jB c.cx.frm h2 (b x i v (by rw [c.cx.kind];exact h1) h3 e1) (Po.here' p c.cx.rel ⟨u,t,v,t,b,r,hv,e1,.nil e2⟩)
theorem Ul {i k:Nat} {x:Str} {px pos:Pos} (G:GOk g F S.B mg mb) (ht:kJ (g.lookup qi)=true) (hk:k<3) (h:xP S.sc S.sm x i=true):SP S (.attr (.loc i) k) (.Attribute (.Name x px) (ze k) pos):=fun f ρ o s Q c p=>by
 refine yP (ya h) fun h1 h2 h3=>?_
 refine ob12 (Po.locB p) fun t hv p=>?_
 refine ob12 c.vl fun u b r=>?_
 refine ob12 (r.get i t hv) fun v e1 e2=>?_
 refine ob11 (je ht) fun f0 hf=>?_
 rw [arm_eval_Attribute]
 refine wpAny_bind ?_
 show wpAny S.M f.A (eval (.Name x px) f.env) _ f.X.E s
 refine jB c.cx.frm h2 (b x i v (by rw [c.cx.kind];exact h1) h3 e1) ?_
 clear ht h1 h2 h3;cases t with
 |sc=>exact p.elim
 |nd l ts=>cases l with
  |inst =>
   refine ob25 e2.node fun a ys ez9x2 ca wz9x4 el es=>?_;clear e2;subst ez9x2;obtain ⟨dx,cd,I⟩:=wz9x4
   cases ex:ts[k]? with
   |none=>rw [show JS (.nd .inst ts) k=none from ex] at p;exact p.elim
   |some t' =>
    rw [show JS (.nd .inst ts) k=some t' from ex] at p
    obtain ⟨y,ey⟩:∃ y,ys[k]?=some y:=⟨_,getElem?_eq_getElem (by rw [el];exact (List.getElem?_eq_some_iff.mp ex).1)⟩
    have rx:=es k t' y ex ey
    refine wpAny_bind (wpAny_standAt (wpAny_bind (wpAny_holding (wpAny_mono (QQ (f:=f) (Q:=Q) (G.tab f0 hf).2 hk c.cx.rel I ey (Zn rx) fun tk=>Po.here (V:=qC S f ρ o) p c.cx.rel ⟨u,_,_,t',b,r,hv,e1,.cons (k:=.inst) ca ⟨dx,cd,I⟩ el es ex ey (.nil rx)⟩) (fun u s' hq=>?_) fun _ _ h=>h))))
    show wpAny S.M f.A ((pure ():Sem Unit) >>= fun _=>pure u) Q f.X.E s'
    exact wpAny_bind (wpAny_pure (wpAny_pure hq))
  | _=>exact p.elim
theorem Yg {i:Nat} {m:za} {x:Str} {r:Expr} {px pos:Pos} (hs:wd r=false) (h:xP S.sc S.sm x i=true) (hm:SE S m r):SP S (.sub (.loc i) m) (.Subscript (.Name x px) r pos):=fun f ρ o s Q c p=>by
 refine yP (ya h) fun h1 h2 h3=>?_
 refine ob12 (Po.locB p) fun t hv p=>?_
 refine ob12 c.vl fun u b r0=>?_
 refine ob12 (r0.get i t hv) fun v e1 e2=>?_
 refine PyProof.Rows.Subscript_ (jB c.cx.frm h2 (b x i v (by rw [c.cx.kind];exact h1) h3 e1) (hm.bind c.cx p fun y w h1 tk r1 g1 hy q=>?_))
 clear pos h hm c p h2 h3;cases t with
 |sc=>exact q.elim
 |nd l ts =>
  clear p;cases ej:Qc (.nd l ts) y with
  |none=>rw [ej] at q;exact q.elim
  |some j =>
   rw [ej] at q
   refine ob12 (bind_eq_some_iff.mp ej) fun l' hk ej=>?_
   refine ob23 (yD hy ej) fun n tk' ez15x2 ez15x3 ej=>?_;clear m hy;subst ez15x2;subst ez15x3
   refine ob25 ((e2.grow g1).node) fun a ys ez16x2 ca ob el es=>?_;clear e2;subst ez16x2
   refine Kb (xJ ej) fun i1 i2 i3 i4=>?_
   obtain ⟨y,ey⟩:∃ y,ys[j]?=some y:=⟨_,getElem?_eq_getElem (by rw [el];exact i2)⟩
   obtain ⟨t',et⟩:∃ t',ts[j]?=some t':=⟨_,getElem?_eq_getElem i2⟩
   exact JV (s:=up s h1 tk) hk ob (by rw [el];exact ej) ey (Po.here' (s:=up s h1 tk) (V:=qC S f ρ o) q r1 ⟨u,_,_,t',fun x i v a z e=>(b x i v a z e).kept fun b ob _ e=>g1 b ob e,r0.grow g1,hv,e1,.cons (k:=l) ca ob el es et ey (.nil (es j t' y et ey))⟩) (Wi hs _ _)
theorem Ts (G:GOk g F S.B mg mb) (AE:∀ m,PE S g m) {m:za} {e:Expr} (q:(chk g m S.sc S.sm).E e=true):SP S m e:=by
 have no:(∀ ρ,vP S.G S.g.sh S.C m ρ=.stuck)->SP S m e:=fun z=>fun f ρ o s Q c p=>by rw [z] at p;exact p.elim
 cases m with
 |loc i=>exact zD q fun x p k=>Gq k
 |attr o k =>
  cases z:zQ o with
  |none=>exact no fun ρ=>by show (Ex.opt (zQ o)).bind _=_;rw [z];rfl
  |some i =>
   have z:=yb z
   subst z
   refine qG q fun eo nm p k'=>?_
   simp only [and_eq_true,decide_eq_true_eq] at k'
   refine zc k' fun wz18x0 q4=>?_;clear k';refine oc4 wz18x0 fun q1 ez0x1 q2 q3=>?_;clear wz18x0;subst ez0x1
   exact zD q4 fun x px k=>Ul G q1 q2 k
 |sub o i =>
  cases z:zQ o with
  |none=>exact no fun ρ=>by show (Ex.opt (zQ o)).bind _=_;rw [z];rfl
  |some j =>
   have z:=yb z
   subst z
   refine v7 q fun l r p k=>?_
   simp only [and_eq_true,not_eq_true'] at k
   refine zc k fun wz19x0 q3=>?_;clear k;obtain ⟨q1,q2⟩:=wz19x0
   exact zD q1 fun x px k=>Yg q3 k ((AE i _ _).1 _ q2).E
 | _=>exact no fun _=>rfl
noncomputable abbrev RX (S:Su) (c:Sh):Own->Heap->Tr->Value->Prop:=fun o h=>Rd S.B h (cS o c)
noncomputable def SX (S:Su) (m:za) (e:Expr):Prop :=
 ∀ ⦃f:Fr⦄ ⦃ρ:VS⦄ ⦃o:Own⦄ ⦃s:Shared⦄ ⦃Q:Value->Shared->Prop⦄,CxS S f ρ o s.heap->Pv S f frE (RX S (S.c m)) o Q s (vX S.G S.g.sh S.C S.np m ρ)->wpAny S.M f.A (eval e f.env) Q f.X.E s
noncomputable def STX (S:Su) (m:za) (e:Expr):Prop :=
 ∀ ⦃f:Fr⦄ ⦃ρ:VS⦄ ⦃o:Own⦄ ⦃s:Shared⦄ ⦃Q:Bool->Shared->Prop⦄,CxS S f ρ o s.heap->Pv S f frE (fun _ _ a b=>a=b) o Q s (vT S.G S.g.sh S.C S.np m ρ)->wpAny S.M f.A (isTrue e f.env (eval e f.env)) Q f.X.E s
theorem SE.sx {m:za} {e:Expr} (h:SE S m e) (z:∀ ρ,vX S.G S.g.sh S.C S.np m ρ=(S.E m ρ).on ρ):SX S m e:=fun f ρ o s Q c p=>h c.cx (by rw [z] at p;exact Pv.on c p)
theorem ST.sx {m:za} {e:Expr} (h:ST S m e) (z:∀ ρ,vX S.G S.g.sh S.C S.np m ρ=(S.E m ρ).on ρ):STX S m e:=fun f ρ o s Q c p=>h c.cx (by
 have p:Pv S f frE (fun _ _ a b=>a=b) o Q s ((vX S.G S.g.sh S.C S.np m ρ).bind fun t ρ=>(Ex.opt (zd t)).on ρ):=p
 rw [z] at p
 clear h z;revert p;cases S.E m ρ with
 |ok t=>intro p;exact Pv.on (x:=Ex.opt (zd t)) c p
 |exc e=>intro p;exact Pv.on (x:=Ex.exc e) (V:=fun _ _ a b=>a=b) (Q:=Q) c p
 |stuck=>intro p;exact p)
theorem STX.plain {m:za} {e:Expr} (h:SX S m e) (he:∀ env whole,isTrue e env whole=(do let v <- whole;standAt e.pos;holding [v] (truthy v))):STX S m e:=fun f ρ o s Q c p =>
 wpAny_isTrue_value (h c (Pv.bind p fun t ρ1 o1 v h1 tk c1 st hv q=>vR (s:=up _ h1 tk) c1.cx.rel hv (Pv.on (s:=up _ h1 tk) c1 q))) (he _ _)
theorem JC {e:Expr} {name:Str} {env:Env} (h:Vu e=true):attributeBase e name env (eval e env)=eval e env:=by
 cases e with
 |Call f as ks p =>
  cases f with
  |Name x px =>
   cases as with
   |nil =>
    cases ks with
    |nil=>exact no3 h
    |cons=>rfl
   |cons=>rfl
  | _=>rfl
 | _=>rfl
theorem Jj {m:Me} {a:Addr} {ys:List Value} {n:Nat} (g:s.heap.get? a=some (zf ys n)):∃ T,PlainAttrs T/\Slot T (wO m) (Xa m)/\typeOf (.builtin (Xa m))=pure (.type "method_descriptor")/\s.TypeIs (.ref a) T/\∀ b,Value.ref a=.ref b->∃ ob,s.heap.get? b=some ob/\ob.dict=none:=by
 have t:s.TypeIs (.ref a) "list"/\∀ b,Value.ref a=.ref b->∃ ob,s.heap.get? b=some ob/\ob.dict=none:=⟨⟨_,g,rfl⟩,fun b q=>by obtain rfl:=rj q;exact ⟨_,g,rfl⟩⟩
 clear ys n g;cases m with
 |append=>exact ⟨_,F.plainAttrs_list,F.slot_list_append,F.type_list_append,t⟩
 |pop=>exact ⟨_,F.plainAttrs_list,F.slot_list_pop,F.type_list_pop,t⟩
 |insert=>exact ⟨_,F.plainAttrs_list,F.slot_list_insert,F.type_list_insert,t⟩
theorem JW {h:Heap}:∀ {cs:List Sh} {ts:List Tr} {vs:List Value},AL S o cs h ts vs->xY cs ts=true->A2 (Rd S.B h (imm o)) ts vs
 | [],_,_,⟨e1,e2⟩,_=>by subst e1 e2;rfl
 |c::cs,_,_,⟨t,ts,v,vs,e1,e2,r,rs⟩,e=>by
  subst e1 e2
  refine zc (and_eq_true_iff.mp (show (zM c t&&xY cs ts)=true from e)) fun z1 z2=>?_
  exact ⟨v,vs,rfl,r.st z1,JW rs z2⟩
theorem UN {m:Me} {o' args:za} {eo:Expr} {es:List Expr} {apos pos:Pos} {Q:Value->Shared->Prop} (hb:Vu eo=true) (hline:(apos.endLine==pos.line)=true) (hl:es.length<20) (ns:y6 es) (ho:SP S o' eo) (ha:SS S args es)
  (c:CxS S f ρ o s.heap) (p:Pv S f frE (RX S .i) o Q s (kF S.G S.g.sh S.C m o' args ρ)):wpAny S.M f.A (eval (.Call (.Attribute eo (wO m) apos) es [] pos) f.env) Q f.X.E s:=by
 refine wpAny_Call_method_late (JC hb) (uy ns hl) hline rfl (ho c (Pv.onB (W:=fun o=>qC S f ρ o) c p fun xq v h1 tk r1 g1 pl q=>?_))
 refine ob12 q.opt fun ts e1 q=>?_
 refine ob36 (K6 pl e1) fun a ws n ez22x3 lf oa ga la z=>?_;clear eo apos hb hline hl ho e1;subst ez22x3
 refine ob15 (Jj (s:=up s h1 tk) (m:=m) ga) fun T k0 k1 k2 t1 t2=>?_
 have c1:=c.grow r1 g1
 refine ⟨T,Xa m,k0,k1,k2,t1,t2,?_⟩
 refine Calls.callWith_builtin (yM ns) (qB ns (ha (s:=up s h1 tk) pos c1.cx (Pv.onB (s:=up s h1 tk) (W:=fun o=>AL S o (jQ S.g.sh args)) c1 q fun as bs h2 tk2 r2 g2 hv q2=>?_)))
 refine ob12 q2.opt fun wz24x0 e2 q2=>?_;obtain ⟨rt,ts'⟩:=wz24x0
 unfold W9 at e2
 clear pos ns ha c r1 g1 q k0 k1 k2 t1 t2;cases es:xY (jQ S.g.sh args) as with
 |false=>rw [es] at e2;clear q;exact no1 e2
 |true =>
  rw [es] at e2
  have c2:=c1.grow r2 g2
  have ga2:h2.get? a=some (zf ws n):=zx (g2 a _ (zV ga zj)) zj
  refine TS (s:=up s h2 tk2) (o:=o) ga2 la (z.imp fun _ _ r=>r.grow g2) (JW hv es) e2 fun v ys' h3 tk3 keep g3 l3 q3 r3=>?_
  refine zc (Q3 c2 (pl.grow g2) lf oa ga2 keep g3 l3 q3) fun c3 st=>?_
  refine q2 o v h3 tk3 c3 st (r3.mono fun p b ob f1 f2=>⟨f1,zb (fun ob e=>keep b ob (fun z=>?_) e) f2⟩)
  rw [z] at f1;exact nomatch oa.symm.trans f1
theorem Jp {s:Sh} (h:s.isI=true):s=.i:=by cases s <;> first | rfl | cases h
theorem Wr {s:Sh} (hx:Qa s=true):s=.L (.L .i):=by
 cases s with
 |L s=>cases s with
  |L s=>cases s with
   |i=>rfl
   | _=>cases hx
  | _=>cases hx
 | _=>cases hx
theorem He {i:Nat} {x:Str} {es:za} {l:List Expr} {px p1 apos pos:Pos} {Q:Value->Shared->Prop} (hx:Qa (S.g.sh.getD i .i)=true) (h:xP S.sc S.sm x i=true) (hline:(apos.endLine==pos.line)=true) (ha:SS S es l)
  (c:CxS S f ρ o s.heap) (p:Pv S f frE (RX S .i) o Q s (XH S.G S.g.sh S.C i es ρ)):wpAny S.M f.A (eval (.Call (.Attribute (.Name x px) "append" apos) [.List l p1] [] pos) f.env) Q f.X.E s:=by
 have sx:=Wr hx
 refine ob12 (Pv.opt p) fun us e p=>?_
 refine ob12 (bind_eq_some_iff.mp e) fun y e1 e=>?_
 refine ob12 (bind_eq_some_iff.mp e) fun t e2 e3=>?_
 clear hx;subst e2
 cases t with
 |sc=>exact no1 e3
 |nd k us'=>cases k with
  |lst =>
   cases e3
   refine yP (ya h) fun h1 h2 h3=>?_
   refine ob12 c.vl fun u b r=>?_
   refine ob12 (r.get i _ e1) fun v z1 z2=>?_
   refine ob25 z2.node fun a ws ez32x2 y1 wz32x4 y3 y4=>?_;clear h z2;subst ez32x2;obtain ⟨ly,n,y2⟩:=wz32x4
   rw [sx] at y1 y4
   have oa:o a=some (i,[]):=y1
   have ns:y6 [Expr.List l p1]:=jc rfl
   refine wpAny_Call_method_late (JC rfl) (uy ns (show 1<20 by decide)) hline rfl (jB c.cx.frm h2 (b x i _ (by rw [c.cx.kind];exact h1) h3 z1) ?_)
   refine ob15 (Jj (s:=s) (m:=.append) y2) fun T k0 k1 k2 t1 t2=>?_
   refine ⟨T,Xa .append,k0,k1,k2,t1,t2,?_⟩
   refine Calls.callWith_builtin (yM ns) (qB ns (qF rfl (wpAny_List (ha _ c.cx (Pv.onB (W:=fun o=>AL S o (jQ S.g.sh es)) c p fun ts bs h1 tk r1 g1 hv q=>?_)))))
   refine zc q.cond fun ec q=>?_
   refine zc q.ite fun wz35x0 q=>?_;obtain ⟨l1,l2⟩:=wz35x0
   have al:=AL.items es hv
   rw [show S.c es=.i from Jp ec] at al
   have al:A2 (Rd S.B h1 (imm o)) ts bs:=al
   refine ⟨Nat.le_trans (al.len▸l1) (by decide),?_⟩
   have kp:=zt h1 (zf bs 0)
   have gD:(h1.push (zf bs 0)).get? h1.objs.size=some (zf bs 0):=Heap.get?_push_size _ rfl
   have kl:∀ b ob,look h1 b=some ob->look (h1.push (zf bs 0)) b=some ob:=fun b _=>zb (kp b)
   have nD:=zH h1
   have c1:=c.grow r1 g1
   have ga1:h1.get? a=some (zf ws n):=zx (g1 a _ (zV y2 zj)) zj
   have kb:∀ b ob,look h1 b=some ob->look (h1.push (zf bs 0)) b=some ob/\qI o h1.objs.size (i,[us.length]) b=o b:=fun b ob e=>⟨kl b ob e,yw nD e⟩
   have xb:=r.lt e1
   have c2:CxS S f ρ (qI o h1.objs.size (i,[us.length])) (h1.push (zf bs 0)):=c1.relab kb (qQ (r1.grow kp) (r1.freeB nD) ⟨_,gD⟩) (qH c.cx.flo (jG xb))
   have oa2:qI o h1.objs.size (i,[us.length]) a=some (i,[]):=(yw nD (zm ga1)).trans oa
   have b2:Bnd f.env S.sm u (h1.push (zf bs 0)):=fun x i v a z e=>(b x i v a z e).kept fun b ob _ e=>kl b ob (g1 b ob e)
   have r2:=(r.grow g1).lab kb
   refine call_meets F.slot_list_append ⟨_,kp _ _ ga1,rfl⟩ F.entry_list_append (F.args_list_append_2 _ _) (list_append a ws.toArray n (.ref h1.objs.size) (by simp;show _<=2 ^ 24;have:ws.length<=1048576:=ly;omega)) ⟨kp _ _ ga1,?_⟩
   refine ob11 (KZ (ys':=ws++[.ref h1.objs.size]) (f:=fun xs=>xs.push (.ref h1.objs.size)) (kp _ _ ga1) (by simp)) fun n' ga3=>?_
   have k3:∀ b ob,b≠a->(h1.push (zf bs 0)).get? b=some ob->((h1.push (zf bs 0)).update a (Obj.mapSeq fun xs=>xs.push (.ref h1.objs.size))).get? b=some ob:=xQ
   have kl3:∀ b ob,b≠a->look h1 b=some ob->look ((h1.push (zf bs 0)).update a (Obj.mapSeq fun xs=>xs.push (.ref h1.objs.size))) b=some ob:=fun b ob n e=>zb (fun ob e=>k3 b ob n e) (kl b ob e)
   have Da:h1.objs.size≠a:=fun z=>by rw [<- z,nD] at ga1;clear l px p1 apos pos hline ha c h2 h3 r y1 ly y2 ns k0 k1 k2 t1 t2 r1 hv ec kp kl c1 xb;exact no1 ga1
   obtain ⟨c3,st⟩:=c2.set (P:=fun b=>b=a) (t':=.nd .lst (us++[.nd .lst ts])) b2 r2 e1 z1 (fun z y=>⟨[],y▸oa2⟩) k3 (fun z y=>by rw [show z=a from y];exact ⟨_,ga3⟩) (by
    rw [sx]
    refine .nd oa2 ⟨by rw [length_append,y3];exact l2,n',ga3⟩ (by rw [length_append,length_append,y3];rfl) fun j t v q1 q2=>?_
    by_cases lj:j<us.length
    ·rw [getElem?_append_left lj] at q1
     rw [getElem?_append_left (by rw [y3];exact lj)] at q2
     refine (y4 j t v q1 q2).mono fun p b ob f1 f2=>⟨(yw nD (g1 b ob f2)).trans f1,kl3 b ob (fun z=>?_) (g1 b ob f2)⟩
     rw [z] at f1
     clear l px p1 apos pos hline ha c sx h2 h3 r z1 y1 y4 ly y2 ns k0 k1 k2 t1 t2 r1 hv ec l2 kp kl c1 ga1 xb c2 oa2 b2 r2 n' ga3;rcases yS (show o a=cond _ _ none from f1) with f1 | f1 <;> (rw [oa] at f1;cases f1)
    ·have lj:=le_of_not_lt lj
     rw [getElem?_append_right lj] at q1
     rw [getElem?_append_right (by rw [y3];exact lj),y3] at q2
     clear l px p1 apos pos hline ha c sx h2 h3 r z1 ws y1 y3 y4 ly y2 ns k0 k1 k2 t1 t2 r1 hv ec l2 kp kl c1 ga1 xb c2 oa2 b2 r2 n' ga3;cases ej:j-us.length with
     |succ n=>rw [ej] at q1;cases q1
     |zero =>
      rw [ej] at q1 q2
      clear n;cases q1;cases q2
      have:j=us.length:=le_antisymm (sub_eq_zero_iff_le.mp ej) lj
      clear lj;subst this
      refine .nd (yQ ..) ⟨al.len▸l1,0,k3 _ _ Da gD⟩ al.len fun i t v g1 g2=>(al.at g1 g2).mono fun p b ob f1 f2=>⟨(yw nD f2).trans f1,kl3 b ob (fun z=>?_) f2⟩
      rw [z] at f1;exact nomatch oa.symm.trans f1)
   refine q (qI o h1.objs.size (i,[us.length])) .none _ tk (by rw [kz e1];exact c3) (zC.trans (fun b ob _ e=>kb b ob e) st) (.sc rfl)
  | _=>clear h hline ha c p sx e e1;exact no1 e3
end
end Mine
namespace Mine
open PySem
theorem wU {α:Type} {b:Bool} {y z:α} (e:some z=cond b (some y) none):z=y:=by
 cases b with
 |true=>exact Option.some.inj e
 |false=>exact no2 e
section
variable {ps:List Sh} {es:List za} {sh:List Sh}
theorem Zu {j x:Nat} (e:es[j]?.bind zQ=some x):es[j]?=some (.loc x):=by
 refine ob12 (bind_eq_some_iff.mp e) fun m e1 e2=>?_
 rw [e1,yb e2]
theorem KG {α:Type} {b:Bool} {y z:α} (e:cond b (some y) none=some z):b=true/\y=z:=by
 cases b with
 |true=>exact ⟨rfl,Option.some.inj e⟩
 |false=>exact no1 e
theorem Ji {j x:Nat}:(j,x)∈ioP ps es ↔ es[j]?=some (.loc x)/\(ps.getD j .i).own=true:=by
 unfold ioP
 rw [List.mem_filterMap]
 constructor
 ·rintro ⟨i,_,e⟩
  refine ob12 (bind_eq_some_iff.mp e) fun y e1 e2=>?_
  refine zc (KG e2) fun e4 e3=>?_
  clear e;obtain ⟨rfl,rfl⟩:=pj e3
  exact ⟨Zu e1,e4⟩
 ·rintro ⟨e1,e2⟩
  exact ⟨j,mem_range.mpr (List.getElem?_eq_some_iff.mp e1).1,by rw [e1];show cond _ _ _=_;rw [e2];rfl⟩
theorem Wo {x:Nat}:x∈gvL sh ps es ↔ ∃ j,es[j]?=some (.loc x)/\(ps.getD j .i).isI=true/\(sh.getD x .i).own=true:=by
 unfold gvL
 rw [List.mem_filterMap]
 constructor
 ·rintro ⟨i,_,e⟩
  refine ob12 (bind_eq_some_iff.mp e) fun y e1 e2=>?_
  refine zc (KG e2) fun e4 e3=>?_
  clear e;subst e3
  exact ⟨i,Zu e1,and_eq_true_iff.mp e4⟩
 ·rintro ⟨j,e1,e2,e3⟩
  exact ⟨j,mem_range.mpr (List.getElem?_eq_some_iff.mp e1).1,by rw [e1];show cond _ _ _=_;rw [e2,e3];rfl⟩
end
theorem cond_some' {α:Type} {b:Bool} {y z:α} (e:cond b none (some y)=some z):z=y:=by
 cases b with
 |false=>exact (Option.some.inj e).symm
 |true=>exact no1 e
theorem WA:∀ {l:List (Nat × Nat)} {j x:Nat},(l.map (·.2)).Nodup->(j,x)∈l->l.find? (fun jx=>jx.2==x)=some (j,x)
 | (i,y)::l,j,x,nd,m=>by
  rw [map_cons,nodup_cons] at nd
  rw [List.find?_cons]
  rcases mem_cons.mp m with e | m
  ·obtain ⟨rfl,rfl⟩:=pj e;rw [beq_self_eq_true]
  ·have:y≠x:=fun e=>nd.1 (by subst e;exact mem_map.mpr ⟨_,m,rfl⟩)
   rw [beq_false_of_ne (a:=y) this]
   exact WA nd.2 m
theorem U3 {l:List (Nat × Nat)} {x:Nat} (n:x ∉ l.map (·.2)):l.find? (fun jx=>jx.2==x)=none:=by
 rw [List.find?_eq_none]
 intro y hy e
 exact n (mem_map.mpr ⟨y,hy,eq_of_beq e⟩)
noncomputable def WZ (ρ:VS) (l:List (Nat × Option Tr)):VS:=l.foldl (fun ρ p=>ρ.set p.1 p.2) ρ
theorem x9:∀ (l:List (Nat × Option Tr)) (ρ:VS),(WZ ρ l).length=ρ.length
 | [],ρ=>rfl
 |p::l,ρ=>(x9 l _).trans length_set
theorem JX:∀ {l:List (Nat × Option Tr)} {ρ:VS} {y:Nat} {t:Tr},(WZ ρ l)[y]?=some (some t)->(y,some t)∈l\/(∀ u,(y,u) ∉ l)/\ρ[y]?=some (some t)
 | [],ρ,y,t,e=>.inr ⟨fun _ h=>(nomatch h),e⟩
 | (x,u)::l,ρ,y,t,e=>by
  rcases JX (l:=l) (ρ:=ρ.set x u) e with m | ⟨n,e⟩
  ·exact .inl (.tail _ m)
  ·by_cases xy:x=y
   ·subst xy
    have l1:x<ρ.length:=by
     have:=(List.getElem?_eq_some_iff.mp e).1
     rwa [length_set] at this
    rw [getElem?_set_self l1] at e
    clear l1;obtain rfl:=sj e
    exact .inl (.head _)
   ·rw [getElem?_set_ne xy] at e
    exact .inr ⟨fun w m=>by
     rcases mem_cons.mp m with z | z
     ·clear m;obtain ⟨rfl,rfl⟩:=pj z;exact xy rfl
     ·exact n w z,e⟩
theorem JY:∀ {l:List (Nat × Option Tr)} {ρ:VS} {y:Nat},(∀ u,(y,u)∈l->u≠none)->(∃ t,ρ[y]?=some (some t))->∃ t,(WZ ρ l)[y]?=some (some t)
 | [],ρ,y,n,e=>e
 | (x,u)::l,ρ,y,n,⟨t,e⟩=>by
  refine JY (l:=l) (ρ:=ρ.set x u) (fun w m=>n w (.tail _ m)) ?_
  by_cases xy:x=y
  ·subst xy
   have:=n u (.head _)
   cases u with
   |none=>exact absurd rfl this
   |some u=>exact ⟨u,getElem?_set_self (List.getElem?_eq_some_iff.mp e).1⟩
  ·exact ⟨t,by rw [getElem?_set_ne xy];exact e⟩
theorem Te {sh ps:List Sh} {es:List za} {ρc ρ:VS}:back sh ps es ρc ρ=WZ ρ ((ioP ps es).map (fun jx=>(jx.2,ρc.getD jx.1 none))++(gvL sh ps es).map fun x=>(x,none)):=by
 unfold back WZ
 rw [List.foldl_append,List.foldl_map,List.foldl_map]
noncomputable def oA (io:List (Nat × Nat)) (gv:List Nat) (o:Own):Own:=fun a=>match o a with
 |none=>none
 |some xp=>(match io.find? (fun jx=>jx.2==xp.1) with | some jx=>some (jx.1,xp.2) | none=>cond (gv.contains xp.1) none (lB (some xp)))
noncomputable def oD (io:List (Nat × Nat)) (gv:List Nat) (h:Heap) (o o':Own):Own:=fun a=>match h.get? a with
 |some _=>(match o a with | none=>none | some xp=>cond (gv.contains xp.1) none (some xp))
 |none=>(match o' a with | none=>none | some jp=>(io.find? (fun jx=>jx.1==jp.1)).map fun jx=>(jx.2,jp.2))
noncomputable def cX (o:Own) (x:Nat):Cl:=fun _ a=>Qb o a\/∃ q,o a=some (x,q)
section
variable {o o':Own} {h:Heap} {io:List (Nat × Nat)} {gv:List Nat} {a:Addr} {x:Nat} {p:List Nat}
theorem KR {s:Sh} (q:cO o x s p a):cX o x p a:=by
 have z:∀ b:Bool,o a=cond b (some (x,p)) none->cX o x p a:=fun b e=>by
  cases b
  ·exact .inl (.inl e)
  ·exact .inr ⟨p,e⟩
 cases s with
 |b=>exact .inl q
 | _=>exact z _ q
theorem TV (l:Option (Nat × List Nat)):frS (lB l):=qM (fun _=>l) 0
theorem qP (e:o a=none):oA io gv o a=none:=by unfold oA;rw [e]
theorem TR {j:Nat} (nd:(io.map (·.2)).Nodup) (m:(j,x)∈io) (e:o a=some (x,p)):oA io gv o a=some (j,p):=by
 unfold oA;rw [e];dsimp only;rw [WA nd m]
theorem Kc (n:x ∉ io.map (·.2)) (e:o a=some (x,p)):oA io gv o a=cond (gv.contains x) none (lB (some (x,p))):=by
 unfold oA;rw [e];dsimp only;rw [U3 n]
theorem Kd (n:x ∉ io.map (·.2)) (e:o a=some (x,p)):Qb (oA io gv o) a:=by
 show frS (oA io gv o a);rw [Kc n e]
 clear n e;cases gv.contains x with
 |true=>exact .inl rfl
 |false=>exact TV _
theorem wN {xp:Nat × List Nat} (e:oA io gv o a=some xp):xp=(bB,[])\/xp=(bF,[])\/∃ x,(xp.1,x)∈io/\o a=some (x,xp.2):=by
 unfold oA at e
 revert e;cases o a with
 |none=>intro e;exact no1 e
 |some yq =>
  intro e
  dsimp only at e
  cases ef:io.find? (fun jx=>jx.2==yq.1) with
  |some jx =>
   rw [ef] at e;obtain rfl:=sj e
   have h1:=mem_of_find?_eq_some ef
   have h2:=find?_some ef
   have h2:jx.2=yq.1:=eq_of_beq h2
   exact .inr (.inr ⟨yq.1,by rw [<- h2];exact h1,rfl⟩)
  |none =>
   rw [ef] at e
   cases eg:gv.contains yq.1 with
   |true=>dsimp only at e;rw [eg] at e;exact no1 e
   |false =>
    dsimp only at e;rw [eg] at e
    have e:lB (some yq)=some xp:=e
    rcases TV (some yq) with z | z | z <;> (rw [e] at z;clear e;cases z)
    ·exact .inl rfl
    ·exact .inr (.inl rfl)
theorem GU (e:oA io gv o a=none):o a=none\/∃ xp,o a=some xp/\gv.contains xp.1=true:=by
 unfold oA at e
 revert e;cases o a with
 |none=>intro e;exact .inl rfl
 |some yq =>
  intro e
  dsimp only at e
  revert e;cases io.find? (fun jx=>jx.2==yq.1) with
  |some jx=>intro e;exact no2 e
  |none =>
   intro e
   cases eg:gv.contains yq.1 with
   |true=>exact .inr ⟨yq,rfl,eg⟩
   |false=>dsimp only at e;rw [eg] at e;clear eg;exact no2 e
theorem Jc {ob:Obj} (l:h.get? a=some ob):oD io gv h o o' a=(match o a with | none=>none | some xp=>cond (gv.contains xp.1) none (some xp)):=by
 unfold oD;rw [l]
theorem wM (l:h.get? a=none):oD io gv h o o' a=(match o' a with | none=>none | some jp=>(io.find? (fun jx=>jx.1==jp.1)).map fun jx=>(jx.2,jp.2)):=by
 unfold oD;rw [l]
theorem Y0 {ob:Obj} (l:h.get? a=some ob) (e:oA io gv o a=none):oD io gv h o o' a=none:=by
 rw [Jc l]
 clear ob l;rcases GU e with q | ⟨xp,q1,q2⟩
 ·rw [q]
 ·rw [q1];dsimp only;rw [q2];rfl
theorem u8 {ob:Obj} (l:h.get? a=some ob) (n:x ∉ gv) (e:o a=some (x,p)):oD io gv h o o' a=some (x,p):=by
 rw [Jc l,e];dsimp only
 clear ob l e;cases ec:gv.contains x with
 |true=>exact absurd (contains_iff_mem.mp ec) n
 |false=>rfl
end
theorem Vf {sh:List Sh} {s:Sh} {e:za} (h:xI sh s e=true):∃ x,e=.loc x/\sh.getD x .i=s:=by
 unfold xI at h
 cases z:zQ e with
 |none=>rw [z] at h;exact no3 h
 |some x=>rw [z] at h;exact ⟨x,yb z,of_decide_eq_true h⟩
theorem Ki {sh:List Sh} {e:za} (h:uu sh e=true):∃ x,e=.loc x/\(sh.getD x .i).own=true:=by
 unfold uu at h
 cases z:zQ e with
 |none=>rw [z] at h;exact no3 h
 |some x=>rw [z] at h;exact ⟨x,yb z,h⟩
theorem W7 {io:List Nat} {s:Sh} {x:Nat} {t:Tr} {sh:List Sh} (ow:s.own=true) (ok:Wf sh io s (.loc x) t=true):sh.getD x .i=s:=by
 cases s with
 |i=>exact no3 ow
 |b=>exact no3 ow
 |u=>exact no3 ow
 | _=>exact of_decide_eq_true ok
structure JH (S:Su) (u:List (Option Value)) (o:Own) (ρ:VS) (h:Heap) (e:za) (t:Tr) (w:Value):Prop where
 rd:Rd S.B h (cS o (S.c e)) t w
 loc:∀ x,e=.loc x->ρ[x]?=some (some t)/\u[x]?=some (some w)
 ap:∀ x,cx2 e=some x->Rd S.B h (cX o x) t w
structure AR (S:Su) (u:List (Option Value)) (o:Own) (ρ:VS) (h:Heap) (es:List za) (ts:List Tr) (ws:List Value):Prop where
 l1:ts.length=es.length
 l2:ws.length=es.length
 at':∀ (j:Nat) e t w,es[j]?=some e->ts[j]?=some t->ws[j]?=some w->JH S u o ρ h e t w
section
variable {S:Su} {f:Fr} {ρ:VS} {o o':Own} {s:Shared} {h h':Heap} {u:List (Option Value)} {g:yd}
theorem JH.grow {e:za} {t:Tr} {w:Value} (p:zA h h') (r:JH S u o ρ h e t w):JH S u o ρ h' e t w:=⟨r.rd.grow p,r.loc,fun x e=>(r.ap x e).grow p⟩
theorem ZZ {io:List Nat} {e:za} {t:Tr} {w:Value} {g:Sg} {vs:List Value} (r:VL S.B g vs o ρ u h) (ar:JH S u o ρ h e t w) (ok:apart io e=true):∃ x,x ∉ io/\Rd S.B h (cX o x) t w:=by
 have no:∀ {x},(!io.contains x)=true->x ∉ io:=fun q m=>by rw [contains_iff_mem.mpr m] at q;clear m;exact no3 q
 unfold apart at ok
 cases z:zQ e with
 |some x =>
  rw [z] at ok
  refine zc (ar.loc x (yb z)) fun y1 y2=>?_
  refine ob12 (r.get x t y1) fun v y3 y4=>?_
  rw [y2] at y3;clear vs r y1 y2;cases y3
  exact ⟨x,no ok,y4.to fun p a q=>KR q⟩
 |none =>
  rw [z] at ok
  clear g vs r;cases z:cx2 e with
  |none=>rw [z] at ok;exact no3 ok
  |some x=>rw [z] at ok;exact ⟨x,no ok,ar.ap x z⟩
noncomputable def SA (S:Su) (m:za) (e:Expr):Prop :=
 ∀ ⦃f:Fr⦄ ⦃ρ:VS⦄ ⦃o:Own⦄ ⦃s:Shared⦄ ⦃u:List (Option Value)⦄ ⦃Q:Value->Shared->Prop⦄,CxS S f ρ o s.heap->Bnd f.env S.sm u s.heap->VL S.B S.g f.vs o ρ u s.heap->Po S f o (fun h t w=>JH S u o ρ h m t w) Q s (S.E m ρ)->wpAny S.M f.A (eval e f.env) Q f.X.E s
theorem G8 {e:za} {x:Nat} (h:cx2 e=some x):∃ c,e=.lst (.cons (.const c) (.cons (.loc x) .nil)):=by
 refine ob12 (bind_eq_some_iff.mp h) fun es h1 h=>?_
 refine ob12 (bind_eq_some_iff.mp h) fun p h2 h=>?_
 refine ob12 (bind_eq_some_iff.mp h) fun c h3 h=>?_
 exact ⟨c,by rw [Kh h1,xR h2,uL h3,yb h]⟩
theorem Jz {a b:za} {l:List Expr} {sc:Scope} {sm:List (Str × Nat)} (k:(chk g (.cons a (.cons b .nil)) sc sm).Es l=true):∃ e1 e2,l=[e1,e2]/\(chk g a sc sm).E e1=true/\zI e1=false/\(chk g b sc sm).E e2=true/\zI e2=false:=by
 cases l with
 |nil=>exact no3 k
 |cons e1 l =>
  have k:((chk g a sc sm).E e1&&!zI e1&&(chk g (.cons b .nil) sc sm).Es l)=true:=k
  refine zc (and_eq_true_iff.mp k) fun k1 k2=>?_
  refine zc (and_eq_true_iff.mp k1) fun k1 k3=>?_
  clear k;cases l with
  |nil=>exact no3 k2
  |cons e2 l =>
   have k2:((chk g b sc sm).E e2&&!zI e2&&l.isEmpty)=true:=k2
   refine zc (and_eq_true_iff.mp k2) fun k4 k5=>?_
   refine zc (and_eq_true_iff.mp k4) fun k4 k6=>?_
   exact ⟨e1,e2,by rw [isEmpty_iff.mp k5],k1,by simpa using k3,k4,by simpa using k6⟩
theorem GB {i:Nat} {x:Str} {pos:Pos} (k:xP S.sc S.sm x i=true):SA S (.loc i) (.Name x pos):=fun f ρ o s u Q c b r p=>by
 refine yP (ya k) fun h1 h2 h3=>?_
 refine ob12 (Po.loc p) fun t hv p=>?_
 refine ob12 (r.get i t hv) fun v e1 e2=>?_
 exact jB c.cx.frm h2 (b x i v (by rw [c.cx.kind];exact h1) h3 e1) (Po.here' p c.cx.rel ⟨e2.to fun _ _=>ZQ,fun x e=>by clear pos k c b r p h1 h2 h3 e2;cases e;exact ⟨hv,e1⟩,fun x e=>nomatch e⟩)
theorem GC {i:Nat} {c:Val} {e1:Expr} {y:Str} {py pos:Pos} (hc:SE S (.const c) e1) (s1:zI e1=false) (ky:xP S.sc S.sm y i=true):SA S (.lst (.cons (.const c) (.cons (.loc i) .nil))) (.List [e1,.Name y py] pos):=fun f ρ o s u Q cx b r p=>by
 have e:S.E (.lst (.cons (.const c) (.cons (.loc i) .nil))) ρ=(yx i ρ).bind fun y=>mkL [.sc c,y]:=by
  show ((((yx i ρ).bind fun y=>(Ex.ok []).bind fun ys=>.ok (y::ys)).bind fun xs=>Ex.ok (.sc c::xs)).bind mkL)=_
  clear py pos;cases yx i ρ <;> rfl
 rw [e] at p
 refine ob12 (Po.locB p) fun t hv p=>?_
 refine zc (Po.ite p) fun _ p=>?_
 refine ob12 (r.get i t hv) fun v z1 z2=>?_
 refine yP (ya ky) fun h1 h2 h3=>?_
 refine wpAny_List (y8 s1 rfl (hc (ρ:=ρ) (o:=o) cx.cx fun w h1' tk r1 g1 hw=>?_))
 refine jB (s:=up s h1' tk) (cx.cx.grow r1 g1).frm h2 ((b y i v (by rw [cx.cx.kind];exact h1) h3 z1).kept fun b ob _ e=>g1 b ob e) ⟨(by decide:(2:Nat)<=_),?_⟩
 have kp:=zt h1' (zf [w,v] 0)
 have gl:zA h1' (h1'.push (zf [w,v] 0)):=fun b _=>zb (kp b)
 have gd:(h1'.push (zf [w,v] 0)).get? h1'.objs.size=some (zf [w,v] 0):=Heap.get?_push_size _ rfl
 have od:o h1'.objs.size=none:=r1.free (zH _)
 have ob:∀ c,jD S.B (h1'.push (zf [w,v] 0)) c h1'.objs.size .lst [w,v]:=fun c=>⟨(by decide:(2:Nat)<=lim),0,gd⟩
 have zv:=(z2.grow g1).grow gl
 refine p (.ref h1'.objs.size) _ _ (r1.grow kp) (fun b ob e=>gl b ob (g1 b ob e)) ⟨?_,fun x e=>(nomatch e),fun x e=>?_⟩
 ·exact Jg (c:=(Sh.jn .i ((S.g.sh.getD i .i).jn .i))) od ob ⟨w,[v],rfl,.sc hw.isSc,v,[],rfl,Zg (Xd (zv.to fun _ _=>ZQ)),rfl⟩
 ·clear e1 y py pos hc s1 ky cx b r hv z1 z2 h1 h2 h3 r1 kp gl gd;cases (Option.some.inj e:i=x)
  refine .nd (.inl (.inl od)) (ob _) rfl fun j t' w' g1 g2=>?_
  clear e ob od;cases j with
  |zero=>clear e;obtain rfl:=sj g1;obtain rfl:=sj g2;exact .sc hw.isSc
  |succ j=>clear e hw;cases j with
   |zero=>obtain rfl:=sj g1;obtain rfl:=sj g2;exact zv.to fun p a q=>(KR (p:=p) q:cX o i p a)
   |succ j=>clear p zv g2;exact no1 g1
theorem Yp (AE:∀ m,PE S g m) {m:za} {e:Expr} (q:(chk g m S.sc S.sm).E e=true):SA S m e:=by
 cases z:zQ m with
 |some i =>
  have z:=yb z
  subst z
  exact zD q fun x pos k=>GB k
 |none =>
  cases z2:cx2 m with
  |some i =>
   refine ob11 (G8 z2) fun c ez21x1=>?_;subst ez21x1
   refine kB q fun l pos k=>?_
   refine ob25 (Jz k) fun e1 e2 ez22x2 k1 k2 k3 k4=>?_;clear k k4;subst ez22x2
   exact zD k3 fun y py ky=>GC ((AE _ _ _).1 _ k1).E k2 ky
  |none=>exact fun f ρ o s u Q c b r p=>((AE m _ _).1 _ q).E c.cx (p.to fun h t w y=>⟨y,fun x e=>by (rw [e] at z;clear AE q c y b r p;exact no2 z),fun x e=>by (rw [z2] at e;clear AE q z c y u b r p;exact no1 e)⟩)
end
section
variable {S:Su} {f:Fr} {ρ:VS} {o:Own} {s:Shared} {u:List (Option Value)} {g:yd} {F:Nat->Option zr} {mg mb:Str->Option Value}
theorem K4 (AE:∀ m,PE S g m) (args:za):∀ {es:List Expr} {f:Fr} {ρ:VS} {o:Own} {s:Shared} {u:List (Option Value)} {Q:List Value->Shared->Prop} {pos:Pos},(chk g args S.sc S.sm).Es es=true->CxS S f ρ o s.heap->Bnd f.env S.sm u s.heap->VL S.B S.g f.vs o ρ u s.heap ->
  Po S f o (fun h ts ws=>AR S u o ρ h (qL args) ts ws) Q s ((zK S.G S.g.sh S.C args).Es ρ)->wpAny S.M f.A (spliced (backTo pos (starEach es f.env))) Q f.X.E s:=by
 induction args with
 |nil =>
  intro es f ρ o s u Q pos q c b r p
  cases (show es=[] from isEmpty_iff.mp q)
  exact wpAny_items_nil (Po.here' p c.cx.rel ⟨rfl,rfl,fun _ _ _ _ e=>nomatch e⟩)
 |cons x y _ ih =>
  intro es f ρ o s u Q pos q c b r p
  cases es with
  |nil=>exact no3 q
  |cons e rest =>
   have q:((chk g x S.sc S.sm).E e&&!zI e&&(chk g y S.sc S.sm).Es rest)=true:=q
   simp only [and_eq_true,not_eq_true'] at q
   refine zc q fun wz0x0 q3=>?_;obtain ⟨q1,q2⟩:=wz0x0
   have p:Po S f o (fun h ts ws=>AR S u o ρ h (x::qL y) ts ws) Q s ((S.E x ρ).bind fun t=>((zK S.G S.g.sh S.C y).Es ρ).bind fun ts=>.ok (t::ts)):=p
   refine wpAny_items_cons (Yp AE q1 c b r (p.bind fun t w h1 tk r1 g1 a1 p1=>?_)) (qX q2)
   refine ih (s:=up s h1 tk) q3 (c.grow r1 g1) (fun x i v a z e=>(b x i v a z e).kept fun b ob _ e=>g1 b ob e) (r.grow g1) (p1.bind fun ts ws h2 tk2 r2 g2 a2 p2=>?_)
   refine Po.here' (s:=up s h2 tk2) p2 r2 ⟨congrArg (·+1) a2.l1,congrArg (·+1) a2.l2,fun j e t' w' z1 z2 z3=>?_⟩
   cases j with
   |zero=>obtain rfl:=sj z1;obtain rfl:=sj z2;obtain rfl:=sj z3;exact a1.grow g2
   |succ j=>exact a2.at' j e t' w' z1 z2 z3
 | _=>exact fun _ _ _ _ p=>p.elim
theorem WL {f0:Nat} {a:Addr} {es:List za} {ts:List Tr} {ws:List Value} {Q:Value->Shared->Prop} (C:CS S g F) (fa:Vx g F S.B f0 a) (hnp:S.np=S.g.ps.length) (c:CxS S f ρ o s.heap) (b:Bnd f.env S.sm u s.heap) (r1:VL S.B S.g f.vs o ρ u s.heap) (A:AR S u o ρ s.heap es ts ws)
  (p:Pv S f frE (RX S .i) o Q s (cond (okX S.g.sh S.np (S.G f0).ps es ts&&!ts.isEmpty) (WM (S.C f0 ts) fun ρc=>back S.g.sh (S.G f0).ps es ρc ρ) .stuck)) :
  codeAny S.M f.A (.call (.ref a) ⟨ws,[]⟩) (fun r s'=>match r with | .ok (.ret v)=>Q v s' | .ok _=>False | .error e=>f.X.E e s') s:=by
 refine zc p.cond fun ok p=>?_
 refine zc (and_eq_true_iff.mp ok) fun ok ne=>?_
 generalize eps:(S.G f0).ps=ps at ok p
 refine zc (and_eq_true_iff.mp ok) fun ok k4=>?_
 refine zc (and_eq_true_iff.mp ok) fun ok k3=>?_
 refine zc (and_eq_true_iff.mp ok) fun k1 k2=>?_
 have k1:=le_of_ble_eq_true k1
 have nd:=of_decide_eq_true k2
 have gvp:∀ x∈gvL S.g.sh ps es,S.g.ps.length<=x/\x ∉ (ioP ps es).map (·.2):=fun x hx=>by
  refine zc (and_eq_true_iff.mp (all_eq_true.mp k3 x hx)) fun z1 z2=>?_
  exact ⟨hnp▸of_decide_eq_true z1,fun m=>by rw [contains_iff_mem.mpr m] at z2;exact no3 z2⟩
 have arg:∀ (j:Nat) e t w,es[j]?=some e->ts[j]?=some t->ws[j]?=some w->JH S u o ρ s.heap e t w/\Wf S.g.sh ((ioP ps es).map (·.2)) (ps.getD j .i) e t=true:=fun j e t w z1 z2 z3=>by
  have:=all_eq_true.mp k4 j (mem_range.mpr (List.getElem?_eq_some_iff.mp z1).1)
  rw [z1,z2] at this
  exact ⟨A.at' j e t w z1 z2 z3,this⟩
 have dfd:∀ (j x:Nat),es[j]?=some (.loc x)->∃ t w,ts[j]?=some t/\ws[j]?=some w/\ρ[x]?=some (some t)/\u[x]?=some (some w)/\Wf S.g.sh ((ioP ps es).map (·.2)) (ps.getD j .i) (.loc x) t=true:=fun j x z=>by
  have l:=(List.getElem?_eq_some_iff.mp z).1
  have l1:j<ts.length:=by rw [A.l1];exact l
  have l2:j<ws.length:=by rw [A.l2];exact l
  refine zc (arg j _ _ _ z (getElem?_eq_getElem l1) (getElem?_eq_getElem l2)) fun y1 y2=>?_
  refine zc (y1.loc x rfl) fun y3 y4=>?_
  exact ⟨_,_,getElem?_eq_getElem l1,getElem?_eq_getElem l2,y3,y4,y2⟩
 have nio:∀ {x},bB<=x->x ∉ (ioP ps es).map (·.2):=fun {x} l m=>by
  refine ob12 (mem_map.mp m) fun wz0x0 y1 ez0x2=>?_;obtain ⟨j,x⟩:=wz0x0;subst ez0x2
  refine ob24 (dfd j x (Ji.mp y1).1) fun t w _ _ z _=>?_
  exact absurd (r1.lt z) (not_lt_of_le l)
 have ngv:∀ {x},bB<=x->x ∉ gvL S.g.sh ps es:=fun {x} l m=>by
  refine ob12 (Wo.mp m) fun j y1 _=>?_
  refine ob24 (dfd j x y1) fun t w _ _ z _=>?_
  exact absurd (r1.lt z) (not_lt_of_le l)
 have jps:∀ {j x},(j,x)∈ioP ps es->j<ps.length/\j<1000:=fun {j x} m=>by
  refine zc (Ji.mp m) fun z1 z2=>?_
  refine ⟨Nat.lt_of_not_le fun l=>?_,lt_of_lt_of_le (List.getElem?_eq_some_iff.mp z1).1 k1⟩
  rw [getD_eq_getElem?_getD,getElem?_eq_none l] at z2;exact no3 z2
 generalize eio:ioP ps es=io at *
 generalize egv:gvL S.g.sh ps es=gv at *
 have mio:∀ {j x},(j,x)∈io ↔ es[j]?=some (.loc x)/\(ps.getD j .i).own=true:=fun {j x}=>by rw [<- eio];exact Ji
 have mgv:∀ {x},x∈gv ↔ ∃ j,es[j]?=some (.loc x)/\(ps.getD j .i).isI=true/\(S.g.sh.getD x .i).own=true:=fun {x}=>by rw [<- egv];exact Wo
 have big:∀ {x},x=bB\/x=bF\/x=bL->bB<=x:=fun {x} z=>by rcases z with rfl | rfl | rfl <;> decide
 have frA:∀ {b},frE (o b)->Qb (oA io gv o) b:=fun {b} q=>by
  rcases q with (q | q | q) | q
  ·exact .inl (qP q)
  ·exact Kd (nio (big (.inl rfl))) q
  ·exact Kd (nio (big (.inr (.inl rfl)))) q
  ·exact Kd (nio (big (.inr (.inr rfl)))) q
 have frX:∀ {x b p},x ∉ io.map (·.2)->cX o x p b->Qb (oA io gv o) b:=fun {x b p} n q=>by
  rcases q with q | ⟨q',q⟩
  ·exact frA (.inl q)
  ·exact Kd n q
 have flA:∀ {b},fl (o b)->oA io gv o b=some (bF,[]):=fun {b} q=>by
  rcases q with q | q
  ·rw [Kc (nio (big (.inr (.inl rfl)))) q,eq_false_iff.mpr fun m=>ngv (big (.inr (.inl rfl))) (contains_iff_mem.mp m)];rfl
  ·rw [Kc (nio (big (.inr (.inr rfl)))) q,eq_false_iff.mpr fun m=>ngv (big (.inr (.inr rfl))) (contains_iff_mem.mp m)];rfl
 have lfA:∀ {b},fl (oA io gv o b)->fl (o b):=fun {b} q=>by
  have e:oA io gv o b=some (bF,[]):=by
   rcases q with q | q
   ·exact q
   ·rcases wN q with z | z | ⟨y,z,_⟩
    ·exact absurd (Prod.mk.inj z).1 (by decide)
    ·exact absurd (Prod.mk.inj z).1 (by decide)
    ·exact absurd (jps z).2 (by decide)
  cases eo:o b with
  |none=>exact no1 (Eq.trans (Eq.symm (qP eo)) e)
  |some xp =>
   obtain ⟨x,q⟩:=xp
   by_cases n:x∈io.map (·.2)
   ·refine ob12 (mem_map.mp n) fun wz4x0 y1 ez4x2=>?_;obtain ⟨j,x'⟩:=wz4x0;subst ez4x2
    obtain ⟨rfl,rfl⟩:=pj (sj (Eq.trans (Eq.symm (TR nd y1 eo)) e))
    exact absurd (jps y1).2 (by decide)
   ·rw [Kc n eo] at e
    revert e;cases gv.contains x with
    |true=>intro e;exact no1 e
    |false =>
     intro e
     have e:some (cond (Nat.beq x bL||Nat.beq x bF) (bF,([]:List Nat)) (bB,[]))=some (bF,[]):=e
     cases ez:(Nat.beq x bL||Nat.beq x bF) with
     |false=>rw [ez] at e;exact absurd (Prod.mk.inj (Option.some.inj e)).1 (by decide)
     |true =>
      rcases or_eq_true_iff.mp ez with z | z
      ·have:=eq_of_beq_eq_true z;subst this
       have:=c.cx.flo b _ q eo (.inl rfl);subst this;exact .inr rfl
      ·have:=eq_of_beq_eq_true z;subst this
       have:=c.cx.flo b _ q eo (.inr rfl);subst this;exact .inl rfl
 have pj:∀ {j x},(j,x)∈io->ps[j]?=some (ps.getD j .i):=fun {j x} m=>by rw [getD_eq_getElem?_getD,getElem?_eq_getElem (jps m).1];rfl
 have fj:∀ {j x},(j,x)∈io->io.find? (fun jx=>jx.1==j)=some (j,x):=fun {j x} m=>by
  cases e:io.find? (fun jx=>jx.1==j) with
  |none=>exact absurd (beq_self_eq_true j) (List.find?_eq_none.mp e (j,x) m)
  |some jx =>
   have m2:=mem_of_find?_eq_some e
   have h2:=find?_some e
   have h2:jx.1=j:=eq_of_beq h2
   obtain ⟨j',y⟩:=jx
   subst h2
   have:=(mio.mp m).1.symm.trans (mio.mp m2).1
   cases this;rfl
 have ebk:∀ {ρc},back S.g.sh ps es ρc ρ=WZ ρ (io.map (fun jx=>(jx.2,ρc.getD jx.1 none))++gv.map fun x=>(x,none)):=fun {ρc}=>by rw [Te,eio,egv]
 have lbl:∀ {o':Own} {H:Heap},zC frS (oA io gv o) o' s.heap H->(∀ a j p,oA io gv o a=some (j,p)->j<ps.length->o' a=oA io gv o a)->∀ {b ob},s.heap.get? b=some ob->o' b=oA io gv o b:=fun {o' H} st io' {b ob} e=>by
  cases q:oA io gv o b with
  |none=>exact (st b _ (by rw [q];exact .inl rfl) (zm e)).2.trans q
  |some xp =>
   rcases wN q with z | z | ⟨y,z,_⟩
   ·exact (st b _ (by rw [q,z];exact .inr (.inl rfl)) (zm e)).2.trans q
   ·exact (st b _ (by rw [q,z];exact .inr (.inr rfl)) (zm e)).2.trans q
   ·exact (io' b xp.1 xp.2 q (jps z).1).trans q
 have after:∀ {ρc:VS} {o':Own} {H:Heap} {full:Prop},(∀ b ob,s.heap.get? b=some ob->o' b=oA io gv o b)->(∀ b ob,frS (oA io gv o b)->(¬ fl (oA io gv o b)\/full)->look s.heap b=some ob->look H b=some ob)->IOf S.B (S.G f0) ws ρc o' H ->
   (∀ y t,(back S.g.sh ps es ρc ρ)[y]?=some (some t)->(S.g.sh.getD y .i).own=true\/full->∃ v,u[y]?=some (some v)/\Rd S.B H (cO (oD io gv s.heap o o') y (S.g.sh.getD y .i)) t v) /\
   (∀ (j:Nat) z,S.g.ps[j]?=some z->z.own=true->∃ t v,(back S.g.sh ps es ρc ρ)[j]?=some (some t)/\f.vs[j]?=some v/\u[j]?=some (some v)):=fun {ρc o' H full} eqo keep I=>by
  rw [IOf,eps] at I
  refine ⟨fun y t e fu=>?_,fun j z e1 e2=>?_⟩
  ·rw [ebk] at e
   rcases JX e with m | ⟨n,e⟩
   ·rcases mem_append.mp m with m | m
    ·refine ob12 (mem_map.mp m) fun wz5x0 m1 m2=>?_;obtain ⟨j,x⟩:=wz5x0
     have m3:x=y:=(Prod.mk.inj m2).1
     have m4:ρc.getD j none=some t:=(Prod.mk.inj m2).2
     subst m3
     refine zc (mio.mp m1) fun ej ow=>?_
     refine ob23 (I j _ (pj m1) ow) fun t' v' i1 i2 i3=>?_
     rw [getD_eq_getElem?_getD,i1] at m4
     obtain rfl:=sj m4
     refine ob25 (dfd j x ej) fun t0 w0 d1' d2' d3' d4' d5'=>?_
     obtain rfl:=sj (i2.symm.trans d2')
     refine ⟨_,d4',?_⟩
     rw [W7 ow d5']
     refine i3.to fun p b q=>?_
     rw [qx ow]
     show oD io gv s.heap o o' b=cond ((ps.getD j .i).mem p) (some (x,p)) none
     have q:o' b=cond ((ps.getD j .i).mem p) (some (j,p)) none:=q
     cases l:s.heap.get? b with
     |some ob =>
      rw [eqo b ob l] at q
      revert q;cases (ps.getD j .i).mem p with
      |false=>intro q;exact Y0 l q
      |true =>
       intro q
       rcases wN q with z | z | ⟨y,z1,z2⟩
       ·have:=(jps m1).2
        rw [(Prod.mk.inj z).1] at this
        exact absurd this (by decide)
       ·have:=(jps m1).2
        rw [(Prod.mk.inj z).1] at this
        exact absurd this (by decide)
       ·have:=ej.symm.trans (mio.mp z1).1
        cases this
        exact u8 l (fun m=>(gvp x m).2 (mem_map.mpr ⟨_,m1,rfl⟩)) z2
     |none =>
      rw [wM l,q]
      cases em:(ps.getD j .i).mem p with
      |false=>rfl
      |true=>show (io.find? _).map _=_;rw [fj m1];rfl
    ·refine ob12 (mem_map.mp m) fun x _ m2=>?_
     cases m2
   ·have ny:y ∉ io.map (·.2):=fun m=>by
     refine ob12 (mem_map.mp m) fun wz9x0 m1 m2=>?_;obtain ⟨j,x⟩:=wz9x0
     subst m2
     exact n _ (mem_append.mpr (.inl (mem_map.mpr ⟨_,m1,rfl⟩)))
    have ng:y ∉ gv:=fun m=>n _ (mem_append.mpr (.inr (mem_map.mpr ⟨_,m,rfl⟩)))
    refine ob12 (r1.get y t e) fun v y1 y2=>?_
    refine ⟨v,y1,y2.mono fun p b ob f1 f2=>?_⟩
    refine ob12 (zp f2) fun ob' l _=>?_
    refine ⟨?_,keep b ob (frX (p:=p) ny (KR f1)) ?_ f2⟩
    ·have eq:oD io gv s.heap o o' b=o b:=by
      rcases KR f1 with (q | q | q) | ⟨q',q⟩
      ·rw [Y0 l (qP q),q]
      ·rw [u8 l (ngv (big (.inl rfl))) q,q]
      ·rw [u8 l (ngv (big (.inr (.inl rfl)))) q,q]
      ·rw [u8 l ng q,q]
     rw [QN eq];exact f1
    ·rcases fu with fu | fu
     ·refine .inl fun z=>?_
      rw [qx fu] at f1
      have z:=lfA z
      rcases yS (show o b=cond _ _ none from f1) with q | q
      ·rw [q] at z;rcases z with z | z <;> exact no1 z
      ·rw [q] at z;exact wi (r1.lt e) z
     ·exact .inr fu
  ·refine ob23 (r1.par j z e1 e2) fun t v y1 y2 y3=>?_
   have lj:j<S.g.ps.length:=(List.getElem?_eq_some_iff.mp e1).1
   rw [ebk]
   have nn:∀ w,(j,w)∈io.map (fun jx=>(jx.2,ρc.getD jx.1 none))++gv.map (fun x=>(x,none))->w≠none:=fun w m=>by
    rcases mem_append.mp m with m | m
    ·refine ob12 (mem_map.mp m) fun wz13x0 m1 m2=>?_;obtain ⟨i,x⟩:=wz13x0
     refine ob22 (I i _ (pj m1) (mio.mp m1).2) fun t' v' i1 _=>?_
     have m4:ρc.getD i none=w:=(Prod.mk.inj m2).2
     rw [getD_eq_getElem?_getD,i1] at m4
     rw [<- m4];exact fun h=>nomatch h
    ·refine ob12 (mem_map.mp m) fun x m1 m2=>?_
     have:x=j:=(Prod.mk.inj m2).1
     subst this
     exact absurd lj (not_lt_of_le (gvp x m1).1)
   refine ob11 (JY nn ⟨t,y1⟩) fun t' q=>?_
   exact ⟨t',v,q,y2,y3⟩
 have lve:∀ {o':Own} {b:Addr},(∀ b ob,s.heap.get? b=some ob->o' b=oA io gv o b)->oD io gv s.heap o o' b≠none->o' b≠none:=fun {o' b} eqo n z=>by
  cases l:s.heap.get? b with
  |none=>rw [wM l,z] at n;exact n rfl
  |some ob=>rw [eqo b ob l] at z;exact n (Y0 l z)
 have flD:∀ {o':Own} {b:Addr},fl (oD io gv s.heap o o' b)->fl (o b)/\∃ ob,s.heap.get? b=some ob:=fun {o' b} q=>by
  cases l:s.heap.get? b with
  |some ob =>
   rw [Jc l] at q
   revert q;cases o b with
   |none=>intro q;rcases q with q | q <;> exact no1 q
   |some xp =>
    intro q;dsimp only at q
    revert q;cases gv.contains xp.1 with
    |true=>intro q;rcases q with q | q <;> exact no1 q
    |false=>intro q;exact ⟨q,ob,rfl⟩
  |none =>
   rw [wM l] at q
   revert q;cases o' b with
   |none=>intro q;rcases q with q | q <;> exact no1 q
   |some jp =>
    intro q;dsimp only at q
    cases ef:io.find? (fun jx=>jx.1==jp.1) with
    |none=>rw [ef] at q;rcases q with q | q <;> exact no1 q
    |some jx =>
     rw [ef] at q
     have m:=mem_of_find?_eq_some ef
     refine ob24 (dfd jx.1 jx.2 (mio.mp m).1) fun t w _ _ z _=>?_
     exact absurd q (wi (r1.lt z))
 have floD:∀ {o':Own},yH (oD io gv s.heap o o'):=fun {o'} b x p e z=>by
  cases l:s.heap.get? b with
  |some ob =>
   rw [Jc l] at e
   cases eo:o b with
   |none=>rw [eo] at e;exact no1 e
   |some xp =>
    rw [eo] at e;dsimp only at e
    revert e;cases gv.contains xp.1 with
    |true=>intro e;exact no1 e
    |false=>intro e;exact c.cx.flo b x p (eo.trans e) z
  |none =>
   rw [wM l] at e
   revert e;cases o' b with
   |none=>intro e;exact no1 e
   |some jp =>
    intro e;dsimp only at e
    cases ef:io.find? (fun jx=>jx.1==jp.1) with
    |none=>rw [ef] at e;exact no1 e
    |some jx =>
     rw [ef] at e
     have m:=mem_of_find?_eq_some ef
     refine ob24 (dfd jx.1 jx.2 (mio.mp m).1) fun t w _ _ y _=>?_
     have lt:=r1.lt y
     rw [show jx.2=x from (Prod.mk.inj (Option.some.inj e)).1] at lt
     rcases z with z | z <;> (rw [z] at lt;exact absurd lt (by decide))
 have klD:∀ {o':Own},KL S f (oD io gv s.heap o o'):=fun {o'} b j p e l lb=>by
  have e1:=c.kl b j p e l lb
  refine zc (c.cx.rel.own b (by rw [e1];exact fun z=>nomatch z)) fun _ wz18=>?_;refine ob11 wz18 fun ob e2=>?_
  exact u8 e2 (fun m=>absurd l (not_lt_of_le (gvp j m).1)) e1
 have stD:∀ {o':Own} {H:Heap},zC frS (oA io gv o) o' s.heap H->zC frE o (oD io gv s.heap o o') s.heap H:=fun {o' H} st b ob q e=>by
  refine ob12 (zp e) fun ob' l _=>?_
  refine ⟨(st b ob (frA q) e).1,?_⟩
  rcases q with (q | q | q) | q
  ·rw [Y0 l (qP q),q]
  ·rw [u8 l (ngv (big (.inl rfl))) q,q]
  ·rw [u8 l (ngv (big (.inr (.inl rfl)))) q,q]
  ·rw [u8 l (ngv (big (.inr (.inr rfl)))) q,q]
 refine C f0 a ts ws (oA io gv o) s f.A f.X Q fa c.cx.ok.low ⟨c.cx.rel.base,fun b n=>c.cx.rel.own b fun z=>n (qP z)⟩ (fun b x p e z=>?_) c.cx.frames (fun e he=>?_) (fun b x p e=>?_) (fun q=>by rw [q] at ne;exact no3 ne) (A.l2.trans A.l1.symm) (fun j t w z1 z2=>?_) ?_
 ·rcases wN e with q | q | ⟨y,q,_⟩
  ·cases q;rfl
  ·cases q;rfl
  ·have:x<1000:=(jps q).2
   rcases z with z | z <;> (rw [z] at this;exact absurd this (by decide))
 ·refine zc (c.cx.fok e he) fun h1 wz20=>?_;refine ob14 wz20 fun L h2 h3 h4 h5=>?_
  exact ⟨h1,L,h2,.inl (flA h3),h4,h5⟩
 ·rw [eps]
  rcases wN e with q | q | ⟨y,q,_⟩
  ·cases q;exact .inr (.inl ⟨rfl,rfl⟩)
  ·cases q;exact .inr (.inr rfl)
  ·exact .inl (jps q).1
 ·rw [eps]
  have l:j<es.length:=by rw [<- A.l1];exact (List.getElem?_eq_some_iff.mp z1).1
  refine zc (arg j _ t w (getElem?_eq_getElem l) z1 z2) fun ar ok=>?_
  have ee:=getElem?_eq_getElem l
  generalize es[j]=e at ar ok ee
  have own:(ps.getD j .i).own=true->xI S.g.sh (ps.getD j .i) e=true->Rd S.B s.heap (cL (oA io gv o) j (ps.getD j .i)) t w:=fun ow ok=>by
   refine ob12 (Vf ok) fun x ex sx=>?_
   refine zc (ar.loc x ex) fun y1 y2=>?_
   refine ob12 (r1.get x t y1) fun v y3 y4=>?_
   rw [y2] at y3;cases y3
   rw [sx] at y4
   refine y4.to fun p b q=>?_
   rw [qx ow] at q
   show oA io gv o b=cond _ (some (j,p)) none
   have q:o b=cond ((ps.getD j .i).mem p) (some (x,p)) none:=q
   revert q;cases (ps.getD j .i).mem p with
   |true=>intro q;exact TR nd (mio.mpr ⟨ex▸ee,ow⟩) q
   |false=>intro q;exact qP q
  cases es':ps.getD j .i with
  |i =>
   rw [es'] at ok
   rcases or_eq_true_iff.mp ok with q | q
   ·exact (ar.rd.st q).to fun p b q=>qP q
   ·refine ob12 (Ki q) fun x ex q=>?_
    refine zc (ar.loc x ex) fun y1 y2=>?_
    refine ob12 (r1.get x t y1) fun v y3 y4=>?_
    rw [y2] at y3;cases y3
    have mg:x∈gv:=mgv.mpr ⟨j,ex▸ee,by rw [es'];rfl,q⟩
    refine y4.to fun p b q1=>?_
    show oA io gv o b=none
    rw [qx q] at q1
    rcases yS (show o b=cond _ _ none from q1) with q2 | q2
    ·exact qP q2
    ·rw [Kc (gvp x mg).2 q2,contains_iff_mem.mpr mg];rfl
  |b =>
   rw [es'] at ok
   have z5:∀ {s' p b},(s':Sh).isI=true\/s'.isB=true->cS o s' p b->Qb (oA io gv o) b:=fun {s' p b} hs q=>frA (.inl (by
    cases s' with
    |i=>exact .inl q
    |b=>exact q
    | _=>rcases hs with hs | hs <;> cases hs))
   rcases or_eq_true_iff.mp ok with ok | ok
   ·rcases or_eq_true_iff.mp ok with ok | ok
    ·rcases or_eq_true_iff.mp ok with ok | ok
     ·exact ar.rd.to fun p b q=>z5 (or_eq_true_iff.mp ok) q
     ·exact ar.rd.cls ok
    ·exact ar.rd.to fun p b q=>by
      show Qb _ b
      cases eo:o b with
      |none=>exact .inl (qP eo)
      |some xp=>exact Kd (x:=xp.1) (p:=xp.2) (by rw [isEmpty_iff.mp ok];exact fun h=>nomatch h) eo
   ·refine ob12 (ZZ r1 ar ok) fun x n q=>?_
    exact q.to fun p b q=>frX (p:=p) n q
  |u=>rw [es'] at ok;exact no3 ok
  |L s=>rw [es'] at own ok;exact own rfl ok
  |T=>rw [es'] at own ok;exact own rfl ok
  |D=>rw [es'] at own ok;exact own rfl ok
 ·have nbg:∀ {k:Nat},1000<=k->io.find? (fun jx=>jx.1==k)=none:=fun {k} l=>by
   cases e:io.find? (fun jx=>jx.1==k) with
   |none=>rfl
   |some jx =>
    have m2:=mem_of_find?_eq_some e
    have h2:=find?_some e
    have h2:jx.1=k:=eq_of_beq h2
    have:=(jps (x:=jx.2) m2).2
    rw [h2] at this
    exact absurd this (not_lt_of_le l)
  cases q:S.C f0 ts with
  |stuck=>rw [q] at p;exact p.elim
  |ok t ρc =>
   rw [q] at p
   have p:Pv S f frE (RX S .i) o Q s (.ok t (back S.g.sh ps es ρc ρ)):=p
   intro o' v h' tk hb' fl' st iok I rv
   have eqo:=@lbl o' h' st fun a j p e l=>iok a j p e (eps▸l)
   refine zc (after (full:=True) (fun b ob e=>eqo e) (fun b ob f _ e=>(st b ob f e).1) I) fun a1 a2=>?_
   refine p (oD io gv s.heap o o') v h' tk (c.next (stD st) ⟨hb'.base,fun b n=>hb'.own b (lve (fun b ob e=>eqo e) n)⟩ floD klD b ⟨by rw [ebk,x9];exact r1.len,by rw [ebk,x9];exact r1.small,fun x t e=>a1 x t e (.inr trivial),a2⟩) (stD st) (rv.to fun p b q=>?_)
   show oD io gv s.heap o o' b=none
   have q:o' b=cond _ (some (bR,p)) none:=q
   cases l:s.heap.get? b with
   |some ob =>
    rw [eqo l] at q
    rcases yS q with q | q
    ·exact Y0 l q
    ·rcases wN q with z | z | ⟨y,z,_⟩
     ·exact absurd (Prod.mk.inj z).1 (by decide)
     ·exact absurd (Prod.mk.inj z).1 (by decide)
     ·exact absurd (show bR<1000 from (jps z).2) (by decide)
   |none =>
    rw [wM l]
    rcases yS q with q | q
    ·rw [q]
    ·rw [q];dsimp only;rw [nbg (by decide)];rfl
  |exc c0 ρc =>
   rw [q] at p
   intro o' h' tk e base hx xc ⟨fl',iok,I⟩ st x
   have eqo:=@lbl o' h' st.step fun a j p e l=>iok a j p e (eps▸l)
   refine zc (after (full:=False) (fun b ob e=>eqo e) (fun b ob f n e=>st.based b ob f e (.inr (n.resolve_right id))) I) fun a1 a2=>?_
   refine p (oD io gv s.heap o o') h' tk e base ⟨hx.base,fun b n=>⟨(hx.own b (lve (fun b ob e=>eqo e) n)).1,fun nf=>(hx.own b (lve (fun b ob e=>eqo e) n)).2 fun z=>?_⟩⟩ xc ⟨floD,klD,fun j z e1 e2=>?_⟩ ⟨stD st.step,fun b ob q e nd=>st.based b ob (frA q) e (nd.imp id fun n z=>n (lfA z))⟩ x
   ·cases l:s.heap.get? b with
    |some ob =>
     rw [eqo l] at z
     have z:=lfA z
     refine nf ?_
     rcases z with z | z
     ·rw [u8 l (ngv (big (.inr (.inl rfl)))) z];exact .inl rfl
     ·rw [u8 l (ngv (big (.inr (.inr rfl)))) z];exact .inr rfl
    |none =>
     refine n ?_
     rw [wM l]
     rcases z with z | z <;> (rw [z];dsimp only;rw [nbg (by decide)];rfl)
   ·refine ob23 (a2 j z e1 e2) fun t v y1 y2 y3=>?_
    refine ob12 (a1 j t y1 (.inl (by rw [QX e1];exact e2))) fun v' z1 z2=>?_
    rw [y3] at z1;cases z1
    rw [QX e1] at z2
    exact ⟨t,v,y1,y2,z2.to fun p a z=>by rw [qx e2] at z;exact z⟩
end
section
variable {S:Su} {f:Fr} {ρ:VS} {o o':Own} {s:Shared} {h h':Heap} {u:List (Option Value)} {g:yd} {F:Nat->Option zr} {mg mb:Str->Option Value}
theorem Bnd.grow {env:Env} {sm:List (Str × Nat)} (b:Bnd env sm u h) (g:zA h h'):Bnd env sm u h':=fun x i v a z e=>(b x i v a z e).kept fun b ob _ e=>g b ob e
theorem Rd.next {P:Lbs} {t:Tr} {v:Value} (st:zC P o o' h h') (pn:P none) (r:Rd S.B h (imm o) t v):Rd S.B h' (imm o') t v:=r.mono fun p a ob e1 e2=>by
 have e1:o a=none:=e1
 refine zc (st a ob (by rw [e1];exact pn) e2) fun z1 z2=>?_
 exact ⟨z2.trans e1,z1⟩
theorem Ug {f0:Nat} {args:za} {x:Str} {es:List Expr} {p1 pos:Pos} (G:GOk g F S.B mg mb) (C:CS S g F) (AE:∀ m,PE S g m) (hnp:S.np=S.g.ps.length) (h:yj g S.sc x (.fn f0)=true) (ha:(chk g args S.sc S.sm).Es es=true) {Q:Value->Shared->Prop} (c:CxS S f ρ o s.heap)
  (p:Pv S f frE (RX S .i) o Q s (QM S.G S.g.sh S.C S.np f0 args ρ)):wpAny S.M f.A (eval (.Call (.Name x p1) es [] pos) f.env) Q f.X.E s:=by
 refine ob12 (G.fn x f0 (zE h).2.2) fun a e fa=>?_
 have ⟨ob,fd,body,names,d,ho,hd,_⟩:=fa
 refine ob12 c.vl fun u b r=>?_
 refine wpAny_Call_Name_kw (jM G h c.cx e ?_)
 show wpAny S.M f.A (callWith pos (.ref a) [] (backTo pos (starEach es f.env)) []) Q f.X.E s
 refine Calls.callWith_function (o:=ob) (fd:=fd) (qB ((AE args _ _).2.1 _ ha).ns (K4 AE args ha c b r (Pv.onB (W:=fun o h ts ws=>AR S u o ρ h (qL args) ts ws) c p fun ts ws h1 tk r1 g1 ar q=>⟨⟨r1.base _ _ ho,hd⟩,?_⟩)))
 exact wpAny_call (WL (s:=up s h1 tk) C fa hnp (c.grow r1 g1) (b.grow g1) (r.grow g1) ar q)
theorem Jo {m:za} (e:jZ m ρ=true):∃ x ts,m=.loc x/\ρ[x]?=some (some (.nd .inst ts)):=by
 unfold jZ yx at e
 cases z:zQ m with
 |none=>rw [z] at e;exact no3 e
 |some x =>
  rw [z] at e
  dsimp only at e
  cases q:ρ[x]? with
  |none=>rw [q] at e;exact no3 e
  |some y=>cases y with
   |none=>rw [q] at e;exact no3 e
   |some t =>
    rw [q] at e
    refine ob11 (we e) fun ts ez3x1=>?_;clear e;subst ez3x1
    exact ⟨x,ts,yb z,q⟩
theorem X8 {f0:Nat} {m args:za} {x nm:Str} {es:List Expr} {px apos pos:Pos} (G:GOk g F S.B mg mb) (C:CS S g F) (AE:∀ m,PE S g m) (hnp:S.np=S.g.ps.length) (ht:kJ (g.lookup qi)=true) (hm:g.lookup (qk nm)=some (.meth f0)) (hn:nm ∉ [ze 0,ze 1,ze 2])
  (hline:(apos.endLine==pos.line)=true) (hl:es.length<20) (ho:(chk g m S.sc S.sm).E (.Name x px)=true) (ha:(chk g args S.sc S.sm).Es es=true):SX S (.mcall f0 m args) (.Call (.Attribute (.Name x px) nm apos) es [] pos):=fun f ρ o s Q c p=>by
 refine ob11 (je ht) fun f1 hf=>?_
 refine ob27 ((G.tab f1 hf).2) fun N mN TC _ t1 t2 t3 t4 t5=>?_
 refine ob24 (t5 nm f0 hm) fun a' oF m1 m2 m3 fa=>?_
 have ⟨oF',fd,body,names,d,ho',hd,_⟩:=fa
 have ns:=((AE args _ _).2.1 _ ha).ns
 refine zc (Pv.cond p) fun hi p=>?_
 refine ob22 (Jo hi) fun i ts ez8x2 hv=>?_;clear ht hm hf t3 t4 t5 hi;subst ez8x2
 refine ob12 c.vl fun u b r=>?_
 have p:Po S f o (fun h ts ws=>AR S u o ρ h (.loc i::qL args) ts ws) (fun ws s'=>wpAny S.M f.A (PySem.call (.ref a') ws) Q f.X.E s') s ((S.E (.loc i) ρ).bind fun t=>((zK S.G S.g.sh S.C args).Es ρ).bind fun ts=>.ok (t::ts)) :=
  Pv.onB (W:=fun o h ts ws=>AR S u o ρ h (.loc i::qL args) ts ws) c p fun ts ws h1 tk r1 g1 ar q=>wpAny_call (WL (s:=up s h1 tk) C fa hnp (c.grow r1 g1) (b.grow g1) (r.grow g1) ar q)
 refine KP rfl (uy ns hl) hline (Yp AE ho c b r (p.bind fun t v h1 tk r1 g1 av q pl=>?_))
 have e:=(av.loc i rfl).1
 rw [hv] at e;clear x px apos hnp hline hl ho p fa hv;cases e
 have hr:=av.rd
 refine ob24 hr.node fun a ys ez10x2 _ wz10x4 _=>?_;clear p hr;subst ez10x2;obtain ⟨dx,_,I⟩:=wz10x4
 refine ob13 I.inst fun mA I _ i8=>?_
 have kb:∀ b ob,S.B.get? b=some ob->h1.get? b=some ob:=r1.base
 refine ob11 (vI (TC.keeps kb)) fun xr hC=>?_
 refine ob11 (ui nm) fun y hy=>?_
 refine method_of hC (TC.keeps kb).ns t1 t2 m1 (kb _ _ m2) m3 hy I (Classical.byContradiction fun z=>hn (i8 nm z)) ?_
 refine Calls.callWith_function (o:=oF') (fd:=fd) (qB ns (K4 AE args ha (s:=up s h1 tk) (c.grow r1 g1) (b.grow g1) (r.grow g1) (q.bind fun us ws h2 tk2 r2 g2 as q2=>⟨⟨r2.base _ _ ho',hd⟩,?_⟩)))
 have q2:Po S f o (fun h ts ws=>AR S u o ρ h (.loc i::qL args) ts ws) (fun ws s'=>wpAny S.M f.A (PySem.call (.ref a') ws) Q f.X.E s') (up s h2 tk2) (.ok (.nd .inst ts::us)):=q2
 refine Po.here' (w:=.ref a::ws) q2 r2 ⟨congrArg (·+1) as.l1,congrArg (·+1) as.l2,fun j e t' w' z1 z2 z3=>?_⟩
 clear nm es pos AE hn ha c p TC t1 t2 oF m1 m2 m3 oF' ho' hd ns b r r1 g1 q pl i8 kb xr hC y hy r2 q2;cases j with
 |zero=>clear f a' q2;obtain rfl:=sj z1;obtain rfl:=sj z2;obtain rfl:=sj z3;exact av.grow g2
 |succ j=>exact as.at' j e t' w' z1 z2 z3
theorem G2 {c:Sh} {p:List Nat} {a:Addr} (q:o a=none):cS o c p a:=by
 have z:∀ b:Bool,(match b with | true=>True | false=>o a=none):=fun b=>by clear p;cases b <;> first | exact q | trivial
 cases c with
 |b=>exact .inl q
 |i=>exact q
 |u=>trivial
 | _=>exact z _
theorem Tq {op:UnaryOp} {m:za} {x:Expr} {pos:Pos} (ha:SX S m x):SX S (.un op m) (.UnaryOp op x pos):=fun f ρ o s Q c p =>
 wpAny_UnaryOp (ha c (Pv.bind p fun t ρ1 o1 v h1 tk c1 st hv q=>Hn (s:=up s h1 tk) c1.cx.rel hv (Pv.on (s:=up s h1 tk) c1 q)))
theorem Gj {op:CmpOp} {a b:za} {l r:Expr} {pos:Pos} (hm:behindInMarks op r=false) (ha:SX S a l) (hb:SE S b r):SX S (.cmp op a b) (.Compare l [op] [r] pos):=fun f ρ o s Q c p =>
 wpAny_Compare1 (ha c (Pv.bind p fun t ρ1 o1 v h1 tk c1 st hv q=>hb.bind (s:=up s h1 tk) c1.cx (Pv.on (s:=up s h1 tk) c1 q) fun y w h2 tk2 r2 g2 hu q2=>KM (s:=up s h2 tk2) c1.cx.ok (hv.grow g2) hu q2 fun b q3=>Po.here' (s:=up s h2 tk2) q3 r2 (.sc rfl))) hm
theorem Uh {m:za} {x:Expr} {pos:Pos} (ta:STX S m x):STX S (.un .Not m) (.UnaryOp .Not x pos):=fun f ρ o s Q c p=>by
 have p:Pv S f frE (fun _ _ a b=>a=b) o Q s ((vT S.G S.g.sh S.C S.np m ρ).bind fun b ρ=>.ok (!b) ρ):=by
  have p:Pv S f frE (fun _ _ a b=>a=b) o Q s (((vX S.G S.g.sh S.C S.np m ρ).bind fun t ρ=>(xz t).on ρ).bind fun t ρ=>(Ex.opt (zd t)).on ρ):=p
  show Pv S f frE (fun _ _ a b=>a=b) o Q s (((vX S.G S.g.sh S.C S.np m ρ).bind fun t ρ=>(Ex.opt (zd t)).on ρ).bind fun b ρ=>.ok (!b) ρ)
  clear pos;cases e:vX S.G S.g.sh S.C S.np m ρ with
  |ok t ρ1 =>
   rw [e] at p
   have p:Pv S f frE (fun _ _ a b=>a=b) o Q s (((xz t).on ρ1).bind fun t ρ=>(Ex.opt (zd t)).on ρ):=p
   unfold xz at p
   show Pv S f frE (fun _ _ a b=>a=b) o Q s (((Ex.opt (zd t)).on ρ1).bind fun b ρ=>.ok (!b) ρ)
   revert p;cases zd t with
   |none=>intro p;exact p
   |some b=>intro p;exact p
  |exc=>rw [e] at p;exact p
  |stuck=>rw [e] at p;exact p
 exact wpAny_isTrue_Not (ta c (Pv.bind p fun b ρ1 o1 w h1 tk c1 st e q=>Pv.here' (s:=up s h1 tk) c1 q (congrArg (!·) e)))
theorem Ui {op:CmpOp} {a b:za} {l r:Expr} {pos:Pos} (hm:behindInMarks op r=false) (ha:SX S a l) (hb:SE S b r):STX S (.cmp op a b) (.Compare l [op] [r] pos):=fun f ρ o s Q c p=>by
 have p:Pv S f frE (fun _ _ a b=>a=b) o Q s (((vX S.G S.g.sh S.C S.np a ρ).bind fun x ρ=>((S.E b ρ).bind fun y=>(Ex.opt (ym op x y)).bind fun t=>.ok (.sc (.bool t))).on ρ).bind fun t ρ=>(Ex.opt (zd t)).on ρ):=p
 have p:Pv S f frE (fun _ _ a b=>a=b) o Q s ((vX S.G S.g.sh S.C S.np a ρ).bind fun x ρ=>((S.E b ρ).bind fun y=>(Ex.opt (ym op x y)).bind fun t=>.ok t).on ρ):=by
  clear pos;cases e:vX S.G S.g.sh S.C S.np a ρ with
  |ok t ρ1 =>
   rw [e] at p
   have p:Pv S f frE (fun _ _ a b=>a=b) o Q s ((((S.E b ρ1).bind fun y=>(Ex.opt (ym op t y)).bind fun t=>.ok (.sc (.bool t))).on ρ1).bind fun t ρ=>(Ex.opt (zd t)).on ρ):=p
   show Pv S f frE (fun _ _ a b=>a=b) o Q s (((S.E b ρ1).bind fun y=>(Ex.opt (ym op t y)).bind fun t=>.ok t).on ρ1)
   cases e:S.E b ρ1 with
   |ok y =>
    rw [e] at p
    have p:Pv S f frE (fun _ _ a b=>a=b) o Q s ((((Ex.opt (ym op t y)).bind fun t=>.ok (.sc (.bool t))).on ρ1).bind fun t ρ=>(Ex.opt (zd t)).on ρ):=p
    show Pv S f frE (fun _ _ a b=>a=b) o Q s (((Ex.opt (ym op t y)).bind fun t=>.ok t).on ρ1)
    revert p;cases ym op t y with
    |none=>intro p;exact p
    |some b=>intro p;exact p
   |exc=>rw [e] at p;exact p
   |stuck=>rw [e] at p;exact p
  |exc=>rw [e] at p;exact p
  |stuck=>rw [e] at p;exact p
 exact wpAny_isTrue_Compare1 (ha c (Pv.bind p fun t ρ1 o1 v h1 tk c1 st hv q=>hb.bind (s:=up s h1 tk) c1.cx (Pv.on (s:=up s h1 tk) c1 q) fun y w h2 tk2 r2 g2 hu q2=>KM (s:=up s h2 tk2) c1.cx.ok (hv.grow g2) hu q2 fun b q3=>wpAny_truthy_bool (Po.here' (s:=up s h2 tk2) q3 r2 rfl))) hm
theorem Gk {op:Operator} {a b:za} {l r:Expr} {pos:Pos} (ha:SE S a l) (hb:SE S b r) (xb:SX S b r):SX S (.bin op a b) (.BinOp l op r pos):=fun f ρ o s Q c p=>by
 have p:Pv S f frE (RX S .i) o Q s (cond (eff S.G b) (((S.E a ρ).on ρ).bind fun x ρ=>cond (zM (S.c a) x) ((vX S.G S.g.sh S.C S.np b ρ).bind fun y ρ=>(X7 .i (S.c b) op x y).on ρ) .stuck) ((S.E (.bin op a b) ρ).on ρ)):=p
 revert p;cases eff S.G b with
 |false=>intro p;exact SR.se (m:=.bin op a b) (e:=.BinOp l op r pos) (Ye ha hb) rfl c.cx (Pv.on c p)
 |true =>
  intro p
  refine wpAny_BinOp (ha c.cx (Pv.onB (W:=RX S (S.c a)) c p fun x v h1 tk r1 g1 hv q=>?_))
  refine zc q.cond fun st q=>?_
  refine xb (s:=up s h1 tk) (c.grow r1 g1) (q.bind fun y ρ2 o2 w h2 tk2 c2 st2 hw q2=>?_)
  exact T6 (s:=up s h2 tk2) (s1:=.i) c2.cx.rel ((hv.st st).next st2 (.inl (.inl rfl))) hw ((Pv.on (s:=up s h2 tk2) c2 q2).to fun _ _ _ z=>RW.rd z)
theorem Uf {f0:Nat} {a args:za} {e1 e2:Expr} {pos:Pos} (s1:zI e1=false) (s2:zI e2=false) (ha:SE S a e1) (hb:SE S (.call f0 args) e2) (xb:SX S (.call f0 args) e2):SX S (.lst (.cons a (.cons (.call f0 args) .nil))) (.List [e1,e2] pos):=fun f ρ o s Q c p=>by
 have p:Pv S f frE (RX S (S.c (.lst (.cons a (.cons (.call f0 args) .nil))))) o Q s (cond ((S.G f0).ps.any Sh.own) (((S.E a ρ).on ρ).bind fun x ρ=>cond (zM (S.c a) x) ((QM S.G S.g.sh S.C S.np f0 args ρ).bind fun y ρ=>(mkL [x,y]).on ρ) .stuck) ((S.E (.lst (.cons a (.cons (.call f0 args) .nil))) ρ).on ρ)):=p
 revert p;cases (S.G f0).ps.any Sh.own with
 |false=>intro p;exact Yl (QV s1 ha (QV s2 hb Yb)) c.cx (Pv.on c p)
 |true =>
  intro p
  refine wpAny_List (y8 s1 s2 (ha c.cx (Pv.onB (W:=RX S (S.c a)) c p fun x v h1 tk r1 g1 hv q=>?_)))
  refine zc q.cond fun st q=>?_
  refine xb (s:=up s h1 tk) (c.grow r1 g1) (q.bind fun y ρ2 o2 w h2 tk2 c2 st2 hw q2=>?_)
  have q2:=Pv.on (s:=up s h2 tk2) c2 q2
  refine zc (Po.ite q2) fun l q2=>?_
  have kp:=zt h2 (zf [v,w] 0)
  have gl:zA h2 (h2.push (zf [v,w] 0)):=fun b _=>zb (kp b)
  refine ⟨(by decide:(2:Nat)<=_),?_⟩
  have hv2:Rd S.B h2 (imm o2) x v:=(hv.st st).next st2 (.inl (.inl rfl))
  refine q2 _ _ _ (c2.cx.rel.grow kp) gl ?_
  exact Jg (c:=(S.c a).jn ((Sh.jn .i .i))) (c2.cx.rel.free (zH _)) (fun c=>⟨show [v,w].length<=lim from (by decide:(2:Nat)<=lim),0,Heap.get?_push_size _ rfl⟩) ⟨v,[w],rfl,Xd ((hv2.grow gl).to fun p b q=>G2 q),w,[],rfl,Zg (Xd (hw.grow gl)),rfl⟩
structure X2 (S:Su) (m:za) (e:Expr):Prop where
 X:SX S m e
 T:STX S m e
theorem E3.x2 {m:za} {e:Expr} (h:E3 S m e) (z:∀ ρ,vX S.G S.g.sh S.C S.np m ρ=(S.E m ρ).on ρ):X2 S m e:=⟨SE.sx h.E z,ST.sx h.T z⟩
theorem UM (G:GOk g F S.B mg mb) (AE:∀ m,PE S g m) {m:Me} {o' args:za} {e:Expr} (q:(chk g (.meth m o' args) S.sc S.sm).E e=true):X2 S (.meth m o' args) e:=by
 refine qa q fun fe es pos k=>?_
 refine qG k fun eo nm apos k'=>?_
 simp only [and_eq_true,decide_eq_true_eq] at k'
 refine zc k' fun wz17x0 q5=>?_;clear k';refine oc5 wz17x0 fun ez0x0 q1 q2 q3 q4=>?_;clear wz17x0;clear e q fe k;subst ez0x0
 have ha:=(AE args _ _).2.1 _ q2
 have x:SX S (.meth m o' args) (.Call (.Attribute eo (wO m) apos) es [] pos):=fun f ρ o s Q c p=>by
  have mp:∀ {m:Me} {o':za},(chk g o' S.sc S.sm).E eo=true->Pv S f frE (RX S .i) o Q s (kF S.G S.g.sh S.C m o' args ρ)->wpAny S.M f.A (eval (.Call (.Attribute eo (wO m) apos) es [] pos) f.env) Q f.X.E s:=fun q1 p=>UN q4 q3 q5 ha.ns (Ts G AE q1) ha.ss c p
  clear q5 q4 ha;cases m with
  |pop=>exact mp q1 p
  |insert=>exact mp q1 p
  |append =>
   have p:Pv S f frE (RX S .i) o Q s (match zQ o' with
    |some x=>cond (Qa (S.g.sh.getD x .i)) (VR.opt ((Ql args).bind ul) fun es=>XH S.G S.g.sh S.C x es ρ) (kF S.G S.g.sh S.C .append o' args ρ)
    |none=>kF S.G S.g.sh S.C .append o' args ρ):=p
   cases z:zQ o' with
   |none=>rw [z] at p;exact mp q1 p
   |some x =>
    rw [z] at p
    have p:Pv S f frE (RX S .i) o Q s (cond (Qa (S.g.sh.getD x .i)) (VR.opt ((Ql args).bind ul) fun es=>XH S.G S.g.sh S.C x es ρ) (kF S.G S.g.sh S.C .append o' args ρ)):=p
    cases hl:Qa (S.g.sh.getD x .i) with
    |false=>rw [hl] at p;exact mp q1 p
    |true =>
     rw [hl] at p
     refine ob12 (Pv.opt (show Pv S f frE (RX S .i) o Q s (VR.opt ((Ql args).bind ul) fun es=>XH S.G S.g.sh S.C x es ρ) from p)) fun a e1 p=>?_
     refine ob12 (bind_eq_some_iff.mp e1) fun a' e1 e2=>?_
     rw [J2 e1,Kh e2] at q2
     rw [yb z] at q1
     refine zD (P:=fun eo=>wpAny S.M f.A (eval (.Call (.Attribute eo "append" apos) es [] pos) f.env) Q f.X.E s) q1 fun y py ky=>?_
     clear q1 e1 e2;cases es with
     |nil=>exact no3 q2
     |cons e3 r =>
      have q2:((chk g (.lst a) S.sc S.sm).E e3&&!zI e3&&r.isEmpty)=true:=q2
      refine zc (and_eq_true_iff.mp q2) fun q2 q6=>?_
      rw [isEmpty_iff.mp q6]
      refine kB (P:=fun e3=>wpAny S.M f.A (eval (.Call (.Attribute (.Name y py) "append" apos) [e3] [] pos) f.env) Q f.X.E s) (and_eq_true_iff.mp q2).1 fun l pl kl=>?_
      exact He hl ky q3 ((AE a _ _).2.1 _ kl).ss c p
 exact ⟨x,STX.plain x fun _ _=>rfl⟩
theorem GY (AE:∀ m,PE S g m) (X:∀ e f0 args,(chk g (.call f0 args) S.sc S.sm).E e=true->SX S (.call f0 args) e) {es:za} {e:Expr} (q:(chk g (.lst es) S.sc S.sm).E e=true):X2 S (.lst es) e:=by
 cases z:l2 es with
 |none=>exact ((AE (.lst es) _ _).1 _ q).x2 fun ρ=>by show (match l2 es with | some p=>_ | none=>_)=_;rw [z]
 |some p =>
  refine ob12 (bind_eq_some_iff.mp z) fun p1 h1 h2=>?_
  refine ob12 (map_eq_some_iff.mp h2) fun c h3 h4=>?_
  have e1:=xR h1
  rw [XA h3] at e1
  clear p z h1 h2 h3 h4;subst e1
  refine kB q fun l pos k=>?_
  refine ob25 (Jz k) fun e1 e2 ez23x2 k1 k2 k3 k4=>?_;clear e q k;subst ez23x2
  have x:SX S (.lst (.cons p1.1 (.cons (.call c.1 c.2) .nil))) (.List [e1,e2] pos):=Uf k2 k4 ((AE p1.1 _ _).1 _ k1).E ((AE _ _ _).1 _ k3).E (X _ _ _ k3)
  exact ⟨x,STX.plain x fun _ _=>rfl⟩
theorem EF (G:GOk g F S.B mg mb) (C:CS S g F) (AE:∀ m,PE S g m) (hnp:S.np=S.g.ps.length):∀ m e,(chk g m S.sc S.sm).E e=true->X2 S m e:=by
 have call:∀ e f0 args,(chk g (.call f0 args) S.sc S.sm).E e=true->SX S (.call f0 args) e/\∀ env whole,isTrue e env whole=(do let v <- whole;standAt e.pos;holding [v] (truthy v)):=fun e f0 args q=>by
  refine yK (P:=fun e=>SX S (.call f0 args) e/\∀ env whole,isTrue e env whole=(do let v <- whole;standAt e.pos;holding [v] (truthy v))) q fun x p es p' k=>?_
  rw [and_eq_true] at k
  exact ⟨fun f ρ o s Q c p=>Ug G C AE hnp k.1 k.2 c p,fun _ _=>rfl⟩
 intro m
 induction m with
 |call f0 args=>exact fun e q=>⟨(call e f0 args q).1,STX.plain (call e f0 args q).1 (call e f0 args q).2⟩
 |mcall f0 o args =>
  intro e q
  refine qa q fun fe es pos k=>?_
  refine qG k fun eo nm apos k'=>?_
  simp only [and_eq_true,decide_eq_true_eq,not_eq_true',beq_iff_eq (α:=Option GI)] at k'
  refine zc k' fun wz24x0 q8=>?_;clear k';refine oc7 wz24x0 fun q1 q2 q3 q4 q5 q6 q7=>?_;clear wz24x0
  refine ob22 (y9 q4) fun x px ez24x2 _=>?_;clear q4;subst ez24x2
  have x:=X8 (apos:=apos) (pos:=pos) G C AE hnp q1 q2 (fun z=>by rw [contains_iff_mem.mpr z] at q3;clear hnp z;exact no4 q3) q7 q8 q5 q6
  exact ⟨x,STX.plain x fun _ _=>rfl⟩
 |meth m o args=>exact fun e q=>UM G AE q
 |lst es=>exact fun e q=>GY AE (fun e f0 args q=>(call e f0 args q).1) q
 |un op a ia =>
  intro e q
  refine YE q fun o x p k=>?_
  simp only [and_eq_true,decide_eq_true_eq] at k
  refine zc k fun ez25x0 q1=>?_;clear k;clear hnp call;subst ez25x0
  have h:=ia _ q1
  refine ⟨Tq h.X,?_⟩
  cases op with
  |Not=>exact Uh h.T
  | _=>exact STX.plain (Tq h.X) fun _ _=>rfl
 |cmp op a b ia ib =>
  intro e q
  refine Q9 q fun l os rs p k=>?_
  refine jo k fun o k'=>?_
  refine jo k' fun r k''=>?_
  simp only [and_eq_true,decide_eq_true_eq,not_eq_true'] at k''
  refine zc k'' fun wz26x0 q3=>?_;refine oc3 wz26x0 fun ez2x0 q1 q2=>?_;clear wz26x0;clear hnp call k' k'';subst ez2x0
  have h1:=(ia _ q1).X
  have h2:=(AE b _ _).1 _ q2
  exact ⟨Gj q3 h1 h2.E,Ui q3 h1 h2.E⟩
 |bin op a b ia ib =>
  intro e q
  refine V6 q fun l o r p k=>?_
  simp only [and_eq_true,decide_eq_true_eq] at k
  refine zc k fun wz27x0 q2=>?_;clear k;obtain ⟨rfl,q1⟩:=wz27x0
  have x:SX S (.bin op a b) (.BinOp l op r p):=Gk ((AE a _ _).1 _ q1).E ((AE b _ _).1 _ q2).E (ib _ q2).X
  exact ⟨x,STX.plain x fun _ _=>rfl⟩
 | _=>exact fun e q=>((AE _ _ _).1 _ q).x2 fun _=>rfl
end
structure kS (sm:List (Str × Nat)):Prop where
 inj:∀ x y i,sm.lookup x=some i->sm.lookup y=some i->x=y
 lt:∀ x i,sm.lookup x=some i->i<bB
section
variable {S:Su} {f:Fr} {ρ:VS} {o o':Own} {s:Shared} {h h':Heap} {u:List (Option Value)} {E:Value->Shared->Prop}
theorem Zq {l:Option (Nat × List Nat)} (q:frS l):l≠some (bL,[]):=fun z=>by
 rcases q with q | q | q <;> (rw [z] at q;first | cases q | (injection q with q;injection q with q;exact absurd q (by decide)))
theorem ZR {x:Nat} {c:Sh} {p:List Nat} {a:Addr} (l:x<bB) (q:cO o x c p a):o a≠some (bL,[]):=fun z=>by
 rcases KR q with q | ⟨p',q⟩
 ·exact Zq q z
 ·rw [z] at q;clear z;obtain ⟨rfl,rfl⟩:=pj (sj q);exact absurd l (by decide)
theorem YA {z:Addr} (c:CxS S f ρ o h) (oz:o z=some (bL,[])) (keep:∀ b ob,b≠z->h.get? b=some ob->h'.get? b=some ob) (al:∃ ob,h'.get? z=some ob):HB S.B o h'/\zC frS o o h h' :=
 ⟨c.cx.rel.set (P:=fun b=>b=z) (fun y e=>by rw [show y=z from e,oz];exact fun w=>nomatch w) keep (fun y e=>e▸al),fun b ob q e=>⟨zb (fun ob=>keep b ob fun y=>Zq q (y▸oz)) e,rfl⟩⟩
theorem VL.setv {i:Nat} {tt:Option Tr} {v:Value} (r:VL S.B S.g f.vs o ρ u h) (n:∀ s,S.g.ps[i]?=some s->s.own=false) (k:∀ b ob,o b≠some (bL,[])->look h b=some ob->look h' b=some ob) (hv:∀ t,tt=some t->i<ρ.length->Rd S.B h (cO o i (S.g.sh.getD i .i)) t v):VL S.B S.g f.vs o (ρ.set i tt) (u.set i (some v)) h':=by
 refine ⟨by rw [length_set,length_set];exact r.len,by rw [length_set];exact r.small,fun x t' e=>?_,fun j s e1 e2=>?_⟩
 ·by_cases xi:i=x
  ·subst xi
   have l:=(List.getElem?_eq_some_iff.mp e).1
   rw [length_set] at l
   rw [getElem?_set_self l] at e
   exact ⟨v,getElem?_set_self (by rw [r.len];exact l),(hv t' (Option.some.inj e) l).mono fun p a ob f1 f2=>⟨f1,k a ob (ZR (lt_of_lt_of_le l r.small) f1) f2⟩⟩
  ·rw [getElem?_set_ne xi] at e
   refine ob12 (r.get x t' e) fun w e1 e2=>?_
   exact ⟨w,by rw [getElem?_set_ne xi];exact e1,e2.mono fun p a ob f1 f2=>⟨f1,k a ob (ZR (r.lt e) f1) f2⟩⟩
 ·refine ob23 (r.par j s e1 e2) fun t' w y1 y2 y3=>?_
  have ij:i≠j:=fun z=>by clear tt v r k hv;subst z;rw [n s e1] at e2;clear n s e1;exact no3 e2
  exact ⟨t',w,by rw [getElem?_set_ne ij];exact y1,y2,by rw [getElem?_set_ne ij];exact y3⟩
theorem VV {x:Str} {i:Nat} {tt:Option Tr} {v:Value} {Q:Unit->Shared->Prop} (inj:kS S.sm) (h:stK S.sc S.sm x i=true) (c:CxS S f ρ o s.heap) (n:∀ s,S.g.ps[i]?=some s->s.own=false) (hv:∀ t,tt=some t->i<ρ.length->Rd S.B s.heap (cO o i (S.g.sh.getD i .i)) t v)
  (k:∀ h' tk,CxS S f (ρ.set i tt) o h'->zC frS o o s.heap h'->(∀ b ob,b≠f.env.locals->(∀ y,f.env.cells.lookup y≠some b)->s.heap.get? b=some ob->h'.get? b=some ob)->yG f.env h' x v->(∀ z w,z≠x->yG f.env s.heap z w->yG f.env h' z w)->Q () (up s h' tk)):wpAny S.M f.A (storeName f.env x v) Q E s:=by
 unfold stK at h
 simp only [and_eq_true,or_eq_true,beq_iff_eq] at h
 refine zc h fun wz0x0 h3=>?_;clear h;obtain ⟨h1,h2⟩:=wz0x0
 refine ob12 c.vl fun u b r=>?_
 have cx:=c.cx
 have uset:∀ {w:Value},(u.set i (some v))[i]?=some (some w)->w=v:=fun {w} he=>by
  have lt:=(List.getElem?_eq_some_iff.mp he).1
  rw [length_set] at lt
  rw [getElem?_set_self lt] at he
  exact (Option.some.inj (Option.some.inj he)).symm
 have fin:∀ {z:Addr} {h':Heap} {tk:Nat},o z=some (bL,[])->(∀ b ob,b≠z->s.heap.get? b=some ob->h'.get? b=some ob)->(∃ ob,h'.get? z=some ob)->Frm f.env h'->(z=f.env.locals\/∃ y,f.env.cells.lookup y=some z)->yG f.env h' x v->(∀ z w,z≠x->yG f.env s.heap z w->yG f.env h' z w)->Q () (up s h' tk):=fun {z h' tk} oz keep al frm hz bx bz=>by
  have b':Bnd f.env S.sm (u.set i (some v)) h':=fun y j w hy hj he=>by
   by_cases hxy:y=x
   ·subst hxy
    obtain rfl:=sj (h3.symm.trans hj)
    rw [uset he];exact bx
   ·have ne:i≠j:=fun z=>hxy (inj.inj y x i (z▸hj) h3)
    rw [getElem?_set_ne ne] at he
    exact bz y w hxy (b y j w hy hj he)
  refine zc (YA c oz keep al) fun hb st=>?_
  have r':=r.setv n (fun b ob q e=>zb (fun ob=>keep b ob fun y=>q (y▸oz)) e) hv
  refine k h' tk ⟨⟨cx.scope,cx.ok,frm,Cx.ofVL b' r',hb,cx.flo,cx.frames,fun e he=>?_,cx.here,cx.apart⟩,c.lab,c.kl,_,b',r'⟩ st (fun b ob n1 n2 e=>keep b ob (fun y=>by clear tt inj n hv k r uset oz al b' hb st r';rcases hz with hz | ⟨w,hz⟩;exact n1 (y.trans hz);exact n2 w (y▸hz)) e) bx bz
  refine zc (cx.fok e he) fun h1 wz3=>?_;refine ob14 wz3 fun L h2 h3 h4 wz2=>?_;clear wz3;obtain ⟨m,h5⟩:=wz2
  refine ⟨h1,L,h2,h3,h4,?_⟩
  by_cases y:L=z
  ·clear tt v inj n hv k h3 r uset oz al bx bz b' hb st r' h4;rcases hz with hz | ⟨w,hz⟩
   ·rw [y,hz];exact frm.ns
   ·exact absurd (y▸hz) (cx.apart e he L h2 w)
  ·exact ⟨m,yF h5 fun ob=>zb fun ob=>keep L ob y⟩
 clear i tt inj n hv k h3 h2 r uset;rcases h1 with hl | hc
 ·have kx:f.env.kindOf x=some .local:=by rw [cx.kind];exact hl
  refine ob11 cx.frm.ns fun m hn=>?_
  refine wpAny_storeName_local kx hn (fun h' n' sb=>?_) (by rw [cx.frm.kind];rfl)
  have cellk:∀ {y:Str} {c:Addr} {ob:Obj},f.env.cells.lookup y=some c->look s.heap c=some ob->look h' c=some ob:=fun {y c ob} q e=>zb (fun ob=>zg sb c ob (cx.frm.cell y c q).2) e
  refine fin c.lab.loc (zg sb) (zZ n') ⟨cx.frm.kind,cx.frm.glob,cx.frm.bl,⟨_,n'⟩,fun y c q=>⟨(cx.frm.cell y c q).1.imp fun w iw=>qg iw fun ob e=>cellk q e,(cx.frm.cell y c q).2⟩,cx.frm.cinj,cx.frm.has⟩ (.inl rfl) (.inl ⟨kx,_,n',by rw [if_pos rfl]⟩) fun y w hxy b=>?_
  clear hl;rcases b with ⟨ky,m',hn',e'⟩ | ⟨ky,c,hc,ic⟩
  ·exact .inl ⟨ky,_,n',by rw [if_neg hxy,WR hn hn'];exact e'⟩
  ·exact .inr ⟨ky,c,hc,qg ic fun ob e=>cellk hc e⟩
 ·have kx:f.env.kindOf x=some .cell:=by rw [cx.kind];exact hc
  refine ob11 (cx.frm.has x (.inl kx)) fun d hcx=>?_
  refine zc (cx.frm.cell x d hcx) fun wz5x0 cl=>?_;obtain ⟨u0,iu0⟩:=wz5x0
  refine wpAny_storeName_cell cx.frm.kind kx hcx iu0 fun h' ic sb=>?_
  refine ob11 cx.frm.ns fun m hn=>?_
  have hn':h'.Ns f.env.locals m:=yF hn fun ob=>zb fun ob=>zg sb _ ob (Ne.symm cl)
  refine fin (tk:=s.toks) (c.lab.cell x d hcx) (zg sb) (let ⟨ob,e,_⟩:=ic;⟨ob,e⟩) ⟨cx.frm.kind,cx.frm.glob,cx.frm.bl,⟨m,hn'⟩,fun y c' q=>⟨?_,(cx.frm.cell y c' q).2⟩,cx.frm.cinj,cx.frm.has⟩ (.inr ⟨x,hcx⟩) (.inr ⟨.inl kx,d,hcx,ic⟩) fun y w hxy b=>?_
  ·by_cases z:c'=d
   ·clear c fin m hc kx hn hn' u0 iu0;subst z;exact ⟨_,ic⟩
   ·exact (cx.frm.cell y c' q).1.imp fun w iw=>qg iw fun ob=>zb fun ob=>zg sb _ ob z
  ·clear v c fin m hc kx hn hn' ic u0 iu0;rcases b with ⟨ky,m',hn'',e'⟩ | ⟨ky,c',hc',ic'⟩
   ·exact .inl ⟨ky,m',yF hn'' fun ob=>zb fun ob=>zg sb _ ob (Ne.symm cl),e'⟩
   ·exact .inr ⟨ky,c',hc',qg ic' fun ob=>zb fun ob=>zg sb c' ob (fun z=>hxy (cx.frm.cinj y x c' hc' (z▸hcx)))⟩
theorem vU {x:Str} {i:Nat} {t:Tr} {v:Value} {Q:Unit->Shared->Prop} (inj:kS S.sm) (h:stK S.sc S.sm x i=true) (c:CxS S f ρ o s.heap) (n:∀ s,S.g.ps[i]?=some s->s.own=false) (hv:i<ρ.length->Rd S.B s.heap (cO o i (S.g.sh.getD i .i)) t v)
  (k:∀ h' tk,CxS S f (ρ.set i (some t)) o h'->zC frS o o s.heap h'->(∀ b ob,b≠f.env.locals->(∀ y,f.env.cells.lookup y≠some b)->s.heap.get? b=some ob->h'.get? b=some ob)->Q () (up s h' tk)):wpAny S.M f.A (storeName f.env x v) Q E s :=
 VV inj h c n (fun t' e l=>by clear x inj h c n;obtain rfl:=sj e;exact hv l) fun h' tk c' st kp _ _=>k h' tk c' st kp
end
section
variable {S:Su} {f:Fr} {ρ:VS} {o o':Own} {s:Shared} {h h' h0:Heap} {g:yd} {F:Nat->Option zr} {mg mb:Str->Option Value}
noncomputable def Got (S:Su) (X:Nat) (c:Sh) (o:Own) (h0:Heap):Heap->Tr->Value->Prop:=fun h t v=>∃ o',HB S.B o' h/\yH o'/\(∀ b ob,look h0 b=some ob->o' b=o b)/\Rd S.B h (cL o' X c) t v
noncomputable def SN (S:Su) (X:Nat) (c:Sh) (m:za) (e:Expr):Prop :=
 ∀ ⦃f:Fr⦄ ⦃ρ:VS⦄ ⦃o:Own⦄ ⦃s:Shared⦄ ⦃Q:Value->Shared->Prop⦄,Cx S f ρ o s.heap->Po S f o (Got S X c o s.heap) Q s (S.E m ρ)->wpAny S.M f.A (eval e f.env) Q f.X.E s
theorem Po.toH {α β:Type} {V W:Heap->α->β->Prop} {Q:β->Shared->Prop} {x:Ex α} (p:Po S f o V Q s x) (k:∀ h a b,HB S.B o h->zA s.heap h->W h a b->V h a b):Po S f o W Q s x:=by
 cases x with
 |ok a=>exact fun w h' tk r g v=>p w h' tk r g (k _ _ _ r g v)
 | _=>exact p
theorem RW.got {X:Nat} {t:Tr} {v:Value} (hX:X≠bL/\X≠bF) (r0:HB S.B o h0) (fl:yH o) (r:HB S.B o h) (z:RW S o h0 h t v):Got S X (.L .i) o h0 h t v:=by
 cases t with
 |sc x=>exact ⟨o,r,fl,fun _ _ _=>rfl,.sc z⟩
 |nd k ts =>
  refine ob37 z fun a ys n ez0x3 ez0x4 e3 e4 e5 e6 e7=>?_;clear z;clear e4;subst ez0x3;subst ez0x4
  refine ⟨qI o a (X,[]),qQ r (r0.freeB e3) ⟨_,e5⟩,qH fl hX,fun b ob e=>yw e3 e,.nd (yQ ..) ⟨e6,n,e5⟩ e7.len fun j t v q1 q2=>(e7.at q1 q2).to fun p b q=>?_⟩
  obtain ⟨n1,n2⟩:=v9 q
  exact (ye n1).trans n2
theorem Un {X:Nat} {m:za} {e:Expr} (hX:X≠bL/\X≠bF) (h:SR S m e):SN S X (.L .i) m e:=fun f ρ o s Q cx p=>h cx (p.toH fun h t v r g z=>z.got hX cx.rel cx.flo r)
theorem VU {c r:Sh} {p:List Nat} (e:c.sub r=true) (m:c.mem p=true):r.mem p=true:=by
 cases c with
 |L s=>cases s with
  |i=>cases r with
   |L r=>cases p with
    |nil=>rfl
    |cons=>exact no3 m
   | _=>cases e
  |L s=>cases s with
   |i=>cases r with
    |L r=>cases r with
     |L r=>cases r with
      |i=>exact m
      | _=>cases e
     | _=>cases e
    | _=>cases e
   | _=>cases e
  | _=>cases e
 |D=>cases r with
  |D=>exact m
  | _=>clear m;cases e
 | _=>clear m;cases e
noncomputable def oN (X:Nat) (c:Sh) (h1:Heap) (o o':Own):Own:=fun a=>match h1.get? a with
 |some _=>o a
 |none=>(match o' a with | none=>none | some xp=>cond (c.mem xp.2) (some (X,xp.2)) none)
theorem uj {X:Nat} {c:Sh} {h1:Heap} {a:Addr} {ob:Obj} (e:h1.get? a=some ob):oN X c h1 o o' a=o a:=by unfold oN;rw [e]
theorem Jb {X:Nat} {c:Sh} {h1:Heap} {a:Addr} (e:h1.get? a=none):oN X c h1 o o' a=(match o' a with | none=>none | some xp=>cond (c.mem xp.2) (some (X,xp.2)) none):=by unfold oN;rw [e]
theorem YY {X:Nat} {c:Sh} {h1:Heap} {t:Tr} {v:Value} (hX:X≠bL/\X≠bF) (fl:yH o) (r0:HB S.B o h1) (r:HB S.B o' h') (al:∀ a,o a≠none->∃ ob,h'.get? a=some ob) (g1:zA h0 h1) (q:Rd S.B h' (cL (oN X c h1 o o') X c) t v):Got S X c o h0 h' t v:=by
 refine ⟨oN X c h1 o o',⟨r.base,fun a n=>?_⟩,fun a x p e z=>?_,fun b ob e=>?_,q⟩
 ·clear t v q;cases e:h1.get? a with
  |some ob=>rw [uj e] at n;exact ⟨(r0.own a n).1,al a n⟩
  |none =>
   rw [Jb e] at n
   exact r.own a fun z=>n (by rw [z])
 ·clear t v r0 r al q;cases e1:h1.get? a with
  |some ob=>rw [uj e1] at e;exact fl a x p e z
  |none =>
   rw [Jb e1] at e
   clear fl;revert e;cases o' a with
   |none=>intro e;exact no1 e
   |some xp =>
    intro e
    dsimp only at e
    have:=Prod.mk.inj (wU e.symm)
    rcases z with z | z
    ·exact absurd (this.1.symm.trans z) hX.1
    ·exact absurd (this.1.symm.trans z) hX.2
 ·refine ob12 (zp (g1 b ob e)) fun _ e' _=>?_
  exact uj e'
theorem KQ {X:Nat} {c r:Sh} {h1:Heap} {t:Tr} {v:Value} (hX:X≠bL/\X≠bF) (sb:c.sub r=true) (fl:yH o) (r1:HB S.B o h1) (g1:zA h0 h1) (hb:HB S.B o' h') (k:∀ b ob,look h1 b=some ob->o' b=oB o b) (q:Rd S.B h' (cL o' bR r) t v):Got S X c o h0 h' t v:=by
 refine YY (o':=o') hX fl r1 hb (fun a n=>?_) g1 (q.to fun p a q=>?_)
 ·refine zc (r1.own a n) fun _ wz2=>?_;obtain ⟨ob,e⟩:=wz2
  exact (hb.own a (by rw [k a _ (zm e)];exact fun z=>n (wa z))).2
 ·have q:o' a=cond (r.mem p) (some (bR,p)) none:=q
  show oN X c h1 o o' a=cond (c.mem p) (some (X,p)) none
  clear hX fl r1 g1 hb;cases e:h1.get? a with
  |some ob =>
   rw [uj e]
   rw [k a _ (zm e)] at q
   clear k;cases er:r.mem p with
   |true =>
    rw [er] at q
    exfalso
    rcases qM o a with y | y | y <;> (rw [q] at y;first | cases y | (injection y with y;injection y with y;exact absurd y (by decide)))
   |false =>
    rw [er] at q
    cases es:c.mem p with
    |true=>exact no4 (Eq.trans (Eq.symm (VU sb es)) er)
    |false=>exact wa q
  |none =>
   rw [Jb e,q]
   clear h1 k q e;cases er:r.mem p with
   |true=>rfl
   |false=>clear q;cases es:c.mem p with
    |true=>rw [VU sb es] at er;clear r t v sb q a;exact no4 er
    |false=>rfl
theorem QW (G:GOk g F S.B mg mb) (C:CS S g F) (AE:∀ m,PE S g m) {X:Nat} {c:Sh} {m:za} {e:Expr} (hX:X≠bL/\X≠bF) (ac:vJ S.G c m=true) (q:(chk g m S.sc S.sm).E e=true):SN S X c m e:=by
 cases m with
 |call f0 args =>
  refine yK q fun x p es p' k=>?_
  rw [and_eq_true] at k
  have h:=(AE args _ _).2.1 _ k.2
  exact fun f ρ o s Q cx p=>VP G C k.1 h.ns h.ss cx p fun h1 o' h' t v r g hb _ kk rv=>KQ hX ac cx.flo r g hb kk rv
 |mcall f0 m args =>
  refine qa q fun fe es pos k=>?_
  refine qG k fun eo nm apos k'=>?_
  simp only [and_eq_true,decide_eq_true_eq,not_eq_true',beq_iff_eq (α:=Option GI)] at k'
  refine oc8 k' fun q1 q2 q3 q4 q5 q6 q7 q8=>?_;clear k'
  refine ob22 (y9 q4) fun x px ez24x2 _=>?_;clear e q k q4;subst ez24x2
  have h:=(AE args _ _).2.1 _ q6
  exact fun f ρ o s Q cx p=>JT G C q1 q2 (fun z=>by rw [contains_iff_mem.mpr z] at q3;clear fe nm q1 q2 q6 z;exact no4 q3) q7 q8 h.ns ((AE m _ _).1 _ q5).E h.ss cx p fun h1 o' h' t v r g hb _ kk rv=>KQ hX ac cx.flo r g hb kk rv
 | _=>clear AE hX q;cases ac
theorem Qv {X:Nat} {ts:List Tr} {ys:List Value} {D:Addr} {k:Nat} (hX:X≠bL/\X≠bF) (r0:HB S.B o h0) (fl:yH o) (r:HB S.B o h) (nD:h0.get? D=none) (l:ts.length<=lim) (gD:h.get? D=some (zf ys k)) (own:∀ a,o' a≠none->o' a≠some (bL,[])->S.B.get? a=none/\∃ ob,h.get? a=some ob)
  (ol:∀ b ob,look h0 b=some ob->o' b=o b) (oD:o' D=some (bL,[])) (it:jw S (some X) o' h ts ys):∃ o2,HB S.B o2 h/\yH o2/\(∀ b ob,look h0 b=some ob->o2 b=o b)/\(∀ a,h0.get? a=none->a≠D->o' a=some (bL,[])->o2 a=none)/\Rd S.B h (fun p a=>(o' a=some (bL,[])->a=D)/\cL o2 X (.L (.L .i)) p a) (.nd .lst ts) (.ref D):=by
 classical
 let o2:Own:=fun a=>if a=D then some (X,[]) else match h0.get? a with
  |some _=>o a
  |none=>(match o' a with | none=>none | some xp=>if xp.1=X then some xp else none)
 have e1:o2 D=some (X,[]):=if_pos rfl
 have e2:∀ {a ob},h0.get? a=some ob->o2 a=o a:=fun {a ob} e=>by
  have:a≠D:=fun z=>by rw [z,nD] at e;exact no1 e
  show (if a=D then _ else _)=_;rw [if_neg this,e]
 have e3:∀ {a},h0.get? a=none->a≠D->o2 a=(match o' a with | none=>none | some xp=>if xp.1=X then some xp else none):=fun {a} e n=>by
  show (if a=D then _ else _)=_;rw [if_neg n,e]
 refine ⟨o2,⟨r.base,fun a n=>?_⟩,fun a x p e z=>?_,fun b ob e=>?_,fun a e n z=>?_,.nd ⟨fun _=>rfl,e1⟩ ⟨it.1▸l,k,gD⟩ it.1 fun j t v q1 q2=>(it.2 j t v q1 q2).to fun p a q=>?_⟩
 ·by_cases z:a=D
  ·clear ts l it;subst z;exact ⟨r0.freeB nD,_,gD⟩
  ·clear ts ys k r0 nD l gD it;cases e:h0.get? a with
   |some ob=>rw [e2 e] at n;exact r.own a n
   |none =>
    rw [e3 e z] at n
    clear r;cases eo:o' a with
    |none=>rw [eo] at n;exact absurd rfl n
    |some xp =>
     rw [eo] at n;dsimp only at n
     by_cases zz:xp.1=X
     ·exact own a (by rw [eo];exact fun y=>nomatch y) fun y=>hX.1 (by rw [eo] at y;rw [<- zz,Option.some.inj y])
     ·rw [if_neg zz] at n;exact absurd rfl n
 ·by_cases y:a=D
  ·clear ts ys k r0 r nD l gD own it;subst y
   rw [e1] at e
   have:=(Prod.mk.inj (Option.some.inj e)).1
   clear e1;rcases z with z | z
   ·exact absurd (this.trans z) hX.1
   ·exact absurd (this.trans z) hX.2
  ·clear ts ys k r0 r nD l gD own it e1;cases e0:h0.get? a with
   |some ob=>rw [e2 e0] at e;exact fl a x p e z
   |none =>
    rw [e3 e0 y] at e
    clear fl y;revert e;cases o' a with
    |none=>intro e;exact no1 e
    |some xp =>
     intro e;dsimp only at e
     by_cases zz:xp.1=X
     ·rw [if_pos zz] at e
      have:=Option.some.inj e
      rw [this] at zz
      rcases z with z | z
      ·exact absurd (zz.symm.trans z) hX.1
      ·exact absurd (zz.symm.trans z) hX.2
     ·exact no1 (Eq.trans (Eq.symm (if_neg zz)) e)
 ·refine ob12 (zp e) fun _ e' _=>?_
  exact e2 e'
 ·rw [e3 e n,z];dsimp only
  rw [if_neg (Ne.symm hX.1)]
 ·have nb:=KS (X:=some X) (fun x z=>by clear ts ys k r0 fl r nD l gD own it e1 t v q1 q2;obtain rfl:=sj z;exact hX) q
  have q:o' a=cond ((Sh.L .i).mem p) (some (X,j::p)) none:=q
  have na:a≠D:=fun z=>nb (z▸oD)
  refine ⟨fun z=>absurd z nb,?_⟩
  show o2 a=cond ((Sh.L .i).mem p) (some (X,j::p)) none
  clear ts ys k hX r0 fl r nD l gD own oD it e1 t v q1 q2 nb;cases e:h0.get? a with
  |some ob=>rw [e2 e,<- ol a _ (zm e)];exact q
  |none =>
   rw [e3 e na,q]
   clear ol e2 e e3 q na;cases em:(Sh.L .i).mem p with
   |true=>exact if_pos rfl
   |false=>rfl
theorem Hx {X:Nat} {m:za} {res:VS->Ex (List Tr)} {e1 tgt iter:Expr} {ifs:List Expr} {inner:Scope} {pos:Pos} (hX:X≠bL/\X≠bF) (hE:∀ ρ,S.E m ρ=(res ρ).bind mkL) (H:SC (some X) S res e1 tgt iter ifs inner):SN S X (.L (.L .i)) m (.ListComp e1 [⟨tgt,iter,ifs,0⟩] inner pos):=fun f ρ o s Q cx p=>by
 rw [hE] at p
 rw [eval_ListComp]
 refine H cx ?_
 clear pos hE;revert p;cases res ρ with
 |exc c=>intro p;exact p
 |stuck=>intro p;exact p
 |ok ts =>
  intro p
  obtain ⟨l,p⟩:=Po.ite (show Po S f o (Got S X (.L (.L .i)) o s.heap) Q s (mkL ts) from p)
  refine fun D Cn o' h' tk ys k m r own fl' ol oD' oC' g d3 d4 d5 d8 d9 d10=>⟨m,d10,fun h'' sb=>?_⟩
  refine ob15 (Qv (h0:=s.heap) hX cx.rel cx.flo r d4 l d8 own ol oD' d9) fun o2 r2 f2 k2 dead rd=>?_
  have kk:∀ b ob,b≠Cn->look h' b=some ob->look h'' b=some ob:=fun b ob nb e=>zb (fun o'=>zg sb b o' nb) e
  have n2:o2 Cn=none:=dead Cn d5 (Ne.symm d3) oC'
  have hb:∀ {o0:Own},HB S.B o0 h'->o0 Cn=none->HB S.B o0 h'':=fun {o0} r n=>⟨fun b ob e=>zg sb b ob (fun z=>by rw [z,cx.rel.freeB d5] at e;clear m hX l ys k fl' ol oD' d4 d8 d9 d10 dead;exact no1 e) (r.base b ob e),fun a na=>⟨(r.own a na).1,(r.own a na).2.imp fun ob e=>zg sb a ob (fun z=>na (z▸n)) e⟩⟩
  exact p _ h'' tk (hb r (cx.rel.free d5)) (fun b ob e=>kk b ob (yC e (fun _ _ e=>e) d5) (g b ob e)) ⟨o2,hb r2 n2,f2,k2,rd.mono fun p a ob q e=>⟨q.2,kk a ob (fun z=>d3 (q.1 (z▸oC')▸z)) e⟩⟩
end
section
variable {S:Su} {f:Fr} {ρ:VS} {o o':Own} {s:Shared} {h h' h0:Heap} {g:yd} {F:Nat->Option zr} {mg mb:Str->Option Value} {A:Around} {E:Value->Shared->Prop}
theorem Qd {N Cc:Addr} {mN:Str->Option Value} {pos:Pos} {Q:Value->Shared->Prop} (TC:PyProof.Rows.ClsAt s.heap Cc N mN) (h:wpAny S.M A (call (.ref Cc) []) Q E s):wpAny S.M A (callWith pos (.ref Cc) [] [] []) Q E s:=by
 obtain ⟨hh,gg,d,t,os⟩:=s
 refine ob11 (vI TC) fun xr hC=>?_
 unfold callWith
 refine wpAny_bind (wpAny_holding (PyProof.Rows.evalArgs_none ?_))
 have f1:=tc_lookup
 have hT:(⟨hh,gg,d,t,os⟩:Shared).TypeIs (.ref Cc) "type":=⟨_,hC,rfl⟩
 refine wpAny_bind (wpAny_standAt ?_)
 show wpAny _ _ (keeperOf (.ref Cc) >>= _) _ _ _
 unfold keeperOf specialOf
 have h2:wpAny S.M A (call (.ref Cc) [] [] >>= fun r=>do holding [r] point;pure r) Q E ⟨hh,gg,d,t,os⟩:=wpAny_bind (wpAny_mono h (fun r s' hr=>wpAny_bind (wpAny_holding (wpAny_point (wpAny_pure hr)))) fun _ _ x=>x)
 repeat (any_goals (first | exact h2 | assumption | with_reducible refine wpAny_loadPart_at hC ?_ | with_reducible refine wpAny_load' hC ?_ | wp_step))
theorem XY {n:Nat} {vals:List Value} {Cc:Addr} (ok:AOk n A):VA n (A.under (.builtin "type.__call__" ⟨.ref Cc::vals,[]⟩)):=by
 refine ⟨ok.handled,?_,?_⟩
 ·have:=ok.depth;show A.depth+1+2*n<900;(exact DX this)
 ·have:=ok.units;have u:(Code.builtin "type.__call__" ⟨.ref Cc::vals,[]⟩).cUnits<=10:=le_of_ble_eq_true (by kernel_rfl)
  show A.units+(Code.builtin "type.__call__" ⟨.ref Cc::vals,[]⟩).cUnits+20*n+100<9900;(exact DA this u)
theorem Gu {X f0:Nat} {x:Str} {px pos:Pos} {Q:Value->Shared->Prop} (hX:X≠bL/\X≠bF) (G:GOk g F S.B mg mb) (C:CS S g F) (h:yj g S.sc x (.tab f0)=true) (hx:x=qi) (hG:(S.G f0).ps=[.T]) (cx:Cx S f ρ o s.heap) (p:Po S f o (Got S X .T o s.heap) Q s (GW (S.C f0 [.nd .inst []]))) :
  wpAny S.M f.A (eval (.Call (.Name x px) [] [] pos) f.env) Q f.X.E s:=by
 subst hx
 refine zc (G.tab f0 (zE h).2.2) fun hm wz1=>?_;obtain ⟨N,mN,TC,⟨aI,oI,i1,i2,i3,fa⟩,t1,t2,t3,t4,t5⟩:=wz1
 refine wpAny_Call_Name_kw (jM G h cx hm ?_)
 show wpAny S.M f.A (callWith pos (.ref (QU S.B)) [] [] []) Q f.X.E s
 have kb:∀ b o,S.B.get? b=some o->s.heap.get? b=some o:=cx.rel.base
 refine Qd (TC.keeps kb) ?_
 refine ob11 (vI (TC.keeps kb)) fun xr hC=>?_
 obtain ⟨hh,gg,d,t,os⟩:=s
 refine wpAny_call_obj_init PySem.F.objNew hC (TC.keeps kb).ns i1 (kb _ _ i2) i3 fun h1 a dx Mk=>?_
 refine ob14 Mk.inst fun ob io ic inc id=>?_
 have idd:=Mk.dict ob io
 have ea:=Mk.newX
 have ed:=Mk.newD
 clear px pos h hm TC oI i1 i2 i3 xr hC;rcases id with ⟨z,_⟩ | ⟨d',e1,e2,e3⟩
 ·exact no1 (z.symm.trans idd)
 rw [idd] at e1;cases e1
 let o1:Own:=qI (qI (oB o) a (0,[])) dx (0,[3])
 have od:o1 dx=some (0,[3]):=yQ ..
 have oa:o1 a=some (0,[]):=(ye (Ne.symm e2)).trans (yQ ..)
 have oo:∀ {b:Addr},b≠a->b≠dx->o1 b=oB o b:=fun n1 n2=>(ye n2).trans (ye n1)
 have ol:∀ {b:Addr} {ob:Obj},hh.get? b=some ob->o1 b=oB o b:=fun {b ob} e=>oo (fun z=>by rw [z,ea] at e;exact no1 e) (fun z=>by rw [z,ed] at e;exact no1 e)
 have inv:∀ {b:Addr} {x:Nat} {p:List Nat},o1 b=some (x,p)->(x=0/\(p=[]\/p=[3]))\/(x=bB/\p=[])\/(x=bF/\p=[]):=fun {b x p} e=>by
  by_cases z2:b=dx
  ·rw [z2,od] at e;cases e;exact .inl ⟨rfl,.inr rfl⟩
  ·by_cases z1:b=a
   ·rw [z1,oa] at e;cases e;exact .inl ⟨rfl,.inl rfl⟩
   ·rw [oo z1 z2] at e
    rcases qM o b with y | y | y <;> (rw [e] at y;cases y)
    ·exact .inr (.inl ⟨rfl,rfl⟩)
    ·exact .inr (.inr ⟨rfl,rfl⟩)
 have hb1:HB S.B o1 h1:=⟨fun b ob e=>Mk.keeps b ob (kb b ob e),fun b n=>by
  by_cases z2:b=dx
  ·clear kb;subst z2
   refine ob32 e3 fun od _ _ gd _=>?_;clear e3
   exact ⟨cx.rel.freeB ed,od,gd⟩
  ·by_cases z1:b=a
   ·clear kb ed;subst z1;exact ⟨cx.rel.freeB ea,_,io⟩
   ·rw [oo z1 z2] at n
    refine zc (cx.rel.own b fun z=>n (Jd z)) fun n1 wz6=>?_;obtain ⟨ob,n2⟩:=wz6
    exact ⟨n1,ob,Mk.keeps b ob n2⟩⟩
 refine wpAny_call (C f0 aI [.nd .inst []] [.ref a] o1 ⟨h1,gg,d,t,os⟩ _ f.X (fun r s'=>r=.none/\Q (.ref a) s') fa (XY cx.ok) hb1 (fun b x p e z=>?_) cx.frames (fun e he=>?_) (fun b x p e=>?_) (fun z=>nomatch z) rfl (fun j t v z1 z2=>?_) ?_)
 ·clear aI fa kb ea ed oo hb1;rcases inv e with ⟨y,_⟩ | ⟨_,y⟩ | ⟨_,y⟩
  ·rcases z with z | z <;> exact absurd (y.symm.trans z) (by decide)
  ·exact y
  ·exact y
 ·refine zc (cx.fok e he) fun q1 wz7=>?_;obtain ⟨L,q2,q3,q4,m,q5⟩:=wz7
  refine ob11 (zZ q5) fun oL eL=>?_
  refine ⟨q1,L,q2,.inl ?_,q4,m,jv q5 fun ob=>Mk.keeps L ob⟩
  rw [ol eL]
  show lB (o L)=_
  clear aI fa kb ea ed oo hb1 he q1 q2 q4 m q5 oL eL;rcases q3 with q3 | q3 <;> (rw [q3];rfl)
 ·rw [hG]
  clear aI fa kb ea ed oo hb1;rcases inv e with ⟨y,_⟩ | y | ⟨y,_⟩
  ·exact .inl (y▸lt_succ_self 0)
  ·exact .inr (.inl y)
  ·exact .inr (.inr y)
 ·rw [hG]
  clear aI fa kb ea ed oo inv hb1;cases j with
  |succ j=>exact no1 z1
  |zero =>
   cases z1;cases z2
   refine .nd (vs:=[]) oa ⟨dx,od,ob,_,io,ic,idd,inc,e2,e3,fun k v hk e=>(nomatch e),fun y hy=>absurd rfl hy⟩ rfl fun j t v e=>nomatch e
 ·clear aI fa kb io ic inc idd ea ed e2 e3 od oa oo inv hb1;revert p;cases S.C f0 [.nd .inst []] with
  |stuck=>intro p;exact p.elim
  |exc c ρ'=>intro p;exact p.elim
  |ok t ρc =>
   intro p
   intro o' v h' tk hb' fl' st iok I rv
   clear fl' iok;cases t with
   |nd=>exact p.elim
   |sc x=>cases x with
    |none =>
     cases ρc with
     |nil=>exact p.elim
     |cons x rest =>
      refine ob12 (Po.opt (show Po S f o (Got S X .T o hh) Q ⟨hh,gg,d,_,os⟩ (Ex.opt x) from p)) fun t hx p=>?_
      subst hx
      refine ob23 (I 0 .T (by rw [hG];rfl) rfl) fun t' v' j1 j2 j3=>?_
      clear hG;cases j1;cases j2
      have alv:∀ b,o b≠none->∃ ob,h'.get? b=some ob:=fun b n=>by
       refine zc (cx.rel.own b n) fun _ wz11=>?_;obtain ⟨ob,e⟩:=wz11
       refine (hb'.own b ?_).2
       rw [(st b _ (by rw [ol e];exact qM o b) (zm (Mk.keeps b ob e))).2,ol e]
       exact fun z=>n (wa z)
      refine ⟨rv.isSc,p _ h' tk ⟨hb'.base,fun b n=>⟨(cx.rel.own b n).1,alv b n⟩⟩ (fun b ob e=>?_) (YY (o':=o') (h1:=hh) hX cx.flo cx.rel hb' alv (fun _ _ e=>e) (j3.to fun p b q=>?_))⟩
      ·refine ob12 (zp e) fun ob' e' _=>?_
       exact (st b ob (by rw [ol e'];exact qM o b) (zb (Mk.keeps b) e)).1
      ·have q:o' b=cond (Sh.T.mem p) (some (0,p)) none:=q
       show oN X .T hh o o' b=cond (Sh.T.mem p) (some (X,p)) none
       clear hX cx v tk hb' rv j3 alv;cases e:hh.get? b with
       |some ob =>
        rw [uj e]
        rw [(st b _ (by rw [ol e];exact qM o b) (zm (Mk.keeps b ob e))).2,ol e] at q
        clear h1 Mk ol st;revert q;cases Sh.T.mem p with
        |true =>
         intro q
         exfalso
         rcases qM o b with y | y | y <;> (rw [q] at y;first | cases y | (injection y with y;injection y with y;exact absurd y (by decide)))
        |false=>intro q;exact wa q
       |none =>
        rw [Jb e,q]
        clear h1 Mk ob ol e st q;cases em:Sh.T.mem p with
        |true=>show cond (Sh.T.mem p) (some (X,p)) none=_;rw [em]
        |false=>rfl
    | _=>exact p.elim
theorem Yh (AE:∀ m,PE S g m) {X:Nat} {m:za} {e:Expr} (hX:X≠bL/\X≠bF) (ac:VZ S.g.sh m=true) (q:(chk g m S.sc S.sm).E e=true):SN S X (.L (.L .i)) m e:=by
 cases m with
 |lst es=>cases es with
  |nil =>
   refine kB q fun l pos k=>?_
   intro f ρ o s Q cx p
   refine zc (Po.ite (show Po S f o (Got S X (.L (.L .i)) o s.heap) Q s (mkL []) from p)) fun l0 p=>?_
   refine Yd (S:=S) (a:=.nil) rfl ((AE .nil _ _).2.1 _ k).ss cx ?_
   show Po S f o (RW S o s.heap) Q s (if ([]:List Tr).length<=lim then .ok (.nd .lst []) else .stuck)
   rw [if_pos l0]
   intro w h' tk r g z
   refine ob37 z fun a ys n _ ez14x4 e3 e4 e5 e6 e7=>?_;clear z;clear l k l0 e4;subst ez14x4
   cases (show ys=[] from e7)
   exact p _ h' tk r g ⟨qI o a (X,[]),qQ r (cx.rel.freeB e3) ⟨_,e5⟩,qH cx.flo hX,fun b ob e=>yw e3 e,.nd (vs:=[]) (yQ ..) ⟨e6,n,e5⟩ rfl fun j t v e=>nomatch e⟩
  | _=>cases ac
 |comp elt tgt it c =>
  refine ob72 (xN (S:=S) (X:=some X) (fun x z=>by obtain rfl:=sj z;exact hX) (fun sc sm e q=>SR.el (((AE elt sc sm).1 _ q).R ac)) (AE it) (AE c) q) fun e1 tg iter ifs inner pos res ez15x7 h=>?_;clear AE q;subst ez15x7
  rcases h with h | ⟨h1,h2⟩
  ·intro f ρ o s Q cx p
   rw [show S.E (.comp elt tgt it c) ρ=.stuck from h ρ] at p;exact p.elim
  ·exact Hx hX h1 h2
 | _=>clear AE hX q;cases ac
end
noncomputable def Ps (S:Su) (f:Fr) (Q:Flow->Shared->Prop) (o:Own) (s:Shared):VR VF->Prop
 | .ok p ρ'=>(match p with
  | .next=>∀ o' h' tk,CxS S f ρ' o' h'->zC frS o o' s.heap h'->Q .next (up s h' tk)
  | .ret t=>∀ o' v h' tk,HB S.B o' h'->IO S f ρ' o' h'->zC frS o o' s.heap h'->Rd S.B h' (cL o' bR S.g.rs) t v->Q (.ret v) (up s h' tk))
 | .exc c ρ'=>PX S.B f.X (IO S f ρ') frS o s c
 | .stuck=>False
section
variable {S:Su} {f:Fr} {ρ:VS} {o o':Own} {s:Shared} {h h' h0:Heap} {g:yd} {F:Nat->Option zr} {mg mb:Str->Option Value} {Q:Flow->Shared->Prop} {W:Nat}
variable {γ δ:Type} {V:Own->Heap->γ->δ->Prop} {Q':δ->Shared->Prop}
theorem Ps.step {x:VR VF} {tk:Nat} (p:Ps S f Q o s x) (st:zC frS o o' s.heap h'):Ps S f Q o' (up s h' tk) x:=by
 cases x with
 |ok a ρ'=>cases a with
  |next=>exact fun o2 h2 tk2 c st2=>p o2 h2 tk2 c (st.trans st2)
  |ret t=>exact fun o2 v h2 tk2 r i st2 rv=>p o2 v h2 tk2 r i (st.trans st2) rv
 |exc c ρ'=>exact PX.step p st
 |stuck=>exact p
theorem Ps.bind {r:VR γ} {k:γ->VS->VR VF} (p:Ps S f Q o s (r.bind k))
  (K:∀ a ρ' o' w h1 tk,CxS S f ρ' o' h1->zC frE o o' s.heap h1->V o' h1 a w->Ps S f Q o' (up s h1 tk) (k a ρ')->Q' w (up s h1 tk)):Pv S f frE V o Q' s r:=by
 cases r with
 |ok a ρ'=>exact fun o' w h1 tk c st v=>K a ρ' o' w h1 tk c st v (Ps.step (x:=k a ρ') p st.toS)
 |exc c ρ'=>exact PX.toE p
 |stuck=>exact p
theorem Ps.onB {x:Ex γ} {k:γ->VS->VR VF} {V:Heap->γ->δ->Prop} (c:CxS S f ρ o s.heap) (p:Ps S f Q o s ((x.on ρ).bind k))
  (K:∀ a w h1 tk,HB S.B o h1->zA s.heap h1->V h1 a w->Ps S f Q o (up s h1 tk) (k a ρ)->Q' w (up s h1 tk)):Po S f o V Q' s x:=by
 cases x with
 |ok a=>exact fun w h1 tk r g v=>K a w h1 tk r g v (Ps.step (x:=k a ρ) p (zA.step g))
 |exc e=>exact Pv.on (x:=.exc e) (V:=fun _=>V) (Q:=Q') (P:=frS) c p
 |stuck=>exact p
theorem Ps.onS {x:Ex γ} {k:γ->VS->VR VF} {V:Heap->γ->δ->Prop} (c:CxS S f ρ o s.heap) (p:Ps S f Q o s ((x.on ρ).bind k))
  (K:∀ a w h1 tk,HB S.B o h1->zA s.heap h1->V h1 a w->Ps S f Q o s (k a ρ)->Q' w (up s h1 tk)):Po S f o V Q' s x:=by
 cases x with
 |ok a=>exact fun w h1 tk r g v=>K a w h1 tk r g v p
 |exc e=>exact Pv.on (x:=.exc e) (V:=fun _=>V) (Q:=Q') (P:=frS) c p
 |stuck=>exact p
theorem Ps.cond {b:Bool} {x:VR VF} (p:Ps S f Q o s (cond b x .stuck)):b=true/\Ps S f Q o s x:=by
 cases b with
 |true=>exact ⟨rfl,p⟩
 |false=>exact p.elim
theorem Ps.opt {α:Type} {x:Option α} {k:α->VR VF} (p:Ps S f Q o s (VR.opt x k)):∃ a,x=some a/\Ps S f Q o s (k a):=by
 cases x with
 |none=>exact p.elim
 |some a=>exact ⟨a,rfl,p⟩
noncomputable abbrev Su.X (S:Su) (W:Nat) (m:zk):VS->VR VF:=qD S.G S.g.sh S.C S.np S.g.rs W m
noncomputable def S1 (S:Su) (W:Nat) (m:zk) (st:Stmt):Prop :=
 ∀ ⦃f:Fr⦄ ⦃ρ:VS⦄ ⦃o:Own⦄ ⦃s:Shared⦄ ⦃Q:Flow->Shared->Prop⦄,CxS S f ρ o s.heap->Ps S f Q o s (S.X W m ρ)->wpAny S.M f.A (PySem.exec st f.env) Q f.X.E s
noncomputable def SL (S:Su) (W:Nat) (m:zk) (l:List Stmt):Prop :=
 ∀ ⦃f:Fr⦄ ⦃ρ:VS⦄ ⦃o:Own⦄ ⦃s:Shared⦄ ⦃Q:Flow->Shared->Prop⦄,CxS S f ρ o s.heap->Ps S f Q o s (S.X W m ρ)->wpAny S.M f.A (execs l f.env) Q f.X.E s
theorem Tt (G:GOk g F S.B mg mb) (C:CS S g F) (AE:∀ m,PE S g m) {X:Nat} {c:Sh} {m:za} {e:Expr} (hX:X≠bL/\X≠bF) (ac:acq S.G S.g.sh c m=true) (q:(chk g m S.sc S.sm).E e=true):SN S X c m e:=by
 cases c with
 |L t=>cases t with
  |i =>
   rcases or_eq_true_iff.mp ac with ac | ac
   ·exact Un hX (((AE m _ _).1 _ q).R ac)
   ·exact QW G C AE hX ac q
  |L t=>cases t with
   |i =>
    rcases or_eq_true_iff.mp ac with ac | ac
    ·exact Yh AE hX ac q
    ·exact QW G C AE hX ac q
   | _=>cases ac
  | _=>cases ac
 |D=>exact QW G C AE hX ac q
 | _=>cases ac
theorem Hm (G:GOk g F S.B mg mb) (C:CS S g F) (AE:∀ m,PE S g m) {X:Nat} {c:Sh} {m:za} {e:Expr} {Q:Value->Shared->Prop} (hX:X≠bL/\X≠bF) (q:(chk g m S.sc S.sm).E e=true) (cx:Cx S f ρ o s.heap) (p:Po S f o (Got S X c o s.heap) Q s (vN S.G S.g.sh S.C c m ρ)):wpAny S.M f.A (eval e f.env) Q f.X.E s:=by
 cases c with
 |T =>
  obtain ⟨ac,p1⟩:=Po.cond p
  clear p
  obtain ⟨a1,a2⟩:=and_eq_true_iff.mp ac
  unfold Kj at a1
  cases z:Wj m with
  |none=>rw [z] at a1;exact no3 a1
  |some f0 =>
   rw [z] at a1
   have a1:=eq_of_beq_eq_true a1
   subst a1
   rw [Y4 z] at q
   refine yK (P:=fun e=>wpAny S.M f.A (eval e f.env) Q f.X.E s) q fun x px es p' k=>?_
   simp only [and_eq_true,decide_eq_true_eq,isEmpty_iff] at k
   obtain ⟨⟨q1,q2⟩,rfl⟩:=k
   exact Gu hX G C q1 q2 (of_decide_eq_true a2) cx p1
 |i=>exact (show False from p).elim
 |b=>exact (show False from p).elim
 |u=>exact (show False from p).elim
 |L t=>obtain ⟨ac,p⟩:=Po.cond p;exact Tt G C AE hX ac q cx p
 |D=>obtain ⟨ac,p⟩:=Po.cond p;exact Tt G C AE hX ac q cx p
theorem w9 {i:Nat} (z:(S.g.sh.getD i .i).own=false\/S.g.ps.length<=i):∀ s,S.g.ps[i]?=some s->s.own=false:=fun s e=>by
 rcases z with z | z
 ·rw [QX e] at z;exact z
 ·exact no1 (Eq.trans (Eq.symm (getElem?_eq_none z)) e)
theorem WX {x:Str} {i:Nat} {t:Tr} {v:Value} {tk:Nat} {h1:Heap} {E:Value->Shared->Prop} {Q:Unit->Shared->Prop} (inj:kS S.sm) (hs:stK S.sc S.sm x i=true) (c:CxS S f ρ o s.heap) (np:S.g.ps.length<=i) (ow:(S.g.sh.getD i .i).own=true) (g1:zA s.heap h1) (got:Got S i (S.g.sh.getD i .i) o s.heap h1 t v)
  (k:∀ o2 h2 tk2,CxS S f (ρ.set i (some t)) o2 h2->zC frS o o2 s.heap h2->Q () (up s h2 tk2)):wpAny S.M f.A (storeName f.env x v) Q E (up s h1 tk):=by
 refine ob14 got fun o2 r2 f2 k2 rd=>?_
 have c2:CxS S f ρ o2 h1:=c.relab (fun b ob e=>⟨g1 b ob e,k2 b ob e⟩) r2 f2
 exact vU (s:=up s h1 tk) inj hs c2 (w9 (.inr np)) (fun _=>rd.to fun p a q=>by rw [qx ow];exact q) fun h2 tk2 c3 st _=>k o2 h2 tk2 c3 (zC.trans (fun b ob _ e=>⟨g1 b ob e,k2 b ob e⟩) st)
theorem X9 {x:Str} {i:Nat} (inj:kS S.sm) (hs:stK S.sc S.sm x i=true):i<bB:=by
 unfold stK at hs
 simp only [and_eq_true,beq_iff_eq] at hs
 exact inj.lt x i hs.2
theorem JZ {i:Nat} {e:za} {x:Str} {v:Expr} {px pos:Pos} (G:GOk g F S.B mg mb) (C:CS S g F) (AE:∀ m,PE S g m) (hnp:S.np=S.g.ps.length) (inj:kS S.sm) (hs:stK S.sc S.sm x i=true) (hX:X2 S e v) (q:(chk g e S.sc S.sm).E v=true)
  (hw:swapsWith v (some (.Name x px)) pos.line f.env=pure false) (c:CxS S f ρ o s.heap) (p:Ps S f Q o s (S.X W (.assign i e) ρ)):wpAny S.M f.A (PySem.exec (.Assign [.Name x px] v pos) f.env) Q f.X.E s:=by
 have own:∀ c0,c0=S.g.sh.getD i .i->c0.own=true->Ps S f Q o s (cond (decide (S.np<=i)) (((vN S.G S.g.sh S.C c0 e ρ).on ρ).bind fun t ρ=>.ok .next (ρ.set i (some t))) .stuck)->wpAny S.M f.A (PySem.exec (.Assign [.Name x px] v pos) f.env) Q f.X.E s:=fun c0 e0 ow p=>by
  obtain ⟨np,p⟩:=p.cond
  refine wpAny_Assign_Name (Hm G C AE (jG (X9 inj hs)) q c.cx (Ps.onS (V:=Got S i c0 o s.heap) c p fun t v h1 tk r1 g1 got q=>?_)) hw
  subst e0
  exact WX inj hs c (hnp▸of_decide_eq_true np) ow g1 got fun o2 h2 tk2 c2 st=>q o2 h2 tk2 c2 st
 have p:Ps S f Q o s (match S.g.sh.getD i .i with
  | .i=>(vX S.G S.g.sh S.C S.np e ρ).bind fun t ρ=>cond (zM (S.c e) t) (.ok .next (ρ.set i (some t))) .stuck
  |s=>cond (decide (S.np<=i)) (((vN S.G S.g.sh S.C s e ρ).on ρ).bind fun t ρ=>.ok .next (ρ.set i (some t))) .stuck):=p
 cases es:S.g.sh.getD i .i with
 |i =>
  rw [es] at p
  refine wpAny_Assign_Name (hX.X c (Ps.bind p fun t ρ1 o1 v h1 tk c1 st hv q=>?_)) hw
  obtain ⟨ok,q⟩:=q.cond
  refine vU (s:=up s h1 tk) inj hs c1 (w9 (.inl (by rw [es];rfl))) (fun _=>by rw [es];exact hv.st ok) fun h2 tk2 c2 st2 _=>q o1 h2 tk2 c2 st2
 |b=>rw [es] at p;obtain ⟨_,p⟩:=p.cond;exact p.elim
 |u=>rw [es] at p;obtain ⟨_,p⟩:=p.cond;exact p.elim
 |L t=>rw [es] at p;exact own _ es.symm rfl p
 |T=>rw [es] at p;exact own _ es.symm rfl p
 |D=>rw [es] at p;exact own _ es.symm rfl p
end
section
variable {S:Su} {f:Fr} {ρ:VS} {o o':Own} {s:Shared} {h h' h0:Heap} {g:yd} {F:Nat->Option zr} {mg mb:Str->Option Value} {Q:Flow->Shared->Prop} {W:Nat}
theorem HD:SL S W .nil []:=fun f ρ o s Q c p=>wpAny_execs_nil (p o s.heap s.toks c zC.refl)
theorem GH {a b:zk} {st:Stmt} {r:List Stmt} (ha:S1 S W a st) (hb:SL S W b r):SL S W (.cons a b) (st::r):=fun f ρ o s Q c p=>by
 have p:Ps S f Q o s ((S.X W a ρ).bind fun p ρ=>match p with | .next=>S.X W b ρ | .ret t=>.ok (.ret t) ρ):=p
 refine wpAny_execs_cons (ha c ?_)
 clear st ha c;revert p;cases S.X W a ρ with
 |exc e ρ'=>intro p;exact p
 |stuck=>intro p;exact p
 |ok pr ρ1 =>
  intro p
  cases pr with
  |next=>exact fun o1 h1 tk c1 st1=>hb c1 (Ps.step (x:=S.X W b ρ1) p st1)
  |ret t=>exact p
theorem AO {c0:za} {t e:zk} {x:Expr} {y z:List Stmt} {pos:Pos} (hc:STX S c0 x) (ht:SL S W t y) (he:SL S W e z):S1 S W (.ifs c0 t e) (.If x y z pos):=fun f ρ o s Q c p =>
 wpAny_If (hc c (Ps.bind p fun b ρ1 o1 w h1 tk c1 st e q=>by
  rw [<- show b=w from e]
  clear c0 e x pos hc ρ o c p st;cases b with
  |true=>rw [if_pos rfl];exact ht (s:=up s h1 tk) c1 q
  |false=>rw [if_neg (by simp)];exact he (s:=up s h1 tk) c1 q))
theorem kK (cx:Cx S f ρ o h):interactive f.env=false:=by
 unfold interactive;rw [cx.frm.kind];rfl
theorem xX {v:Expr} {line:Nat} {env:Env} (h:jf v=false):swapsWith v none line env=pure false:=by
 cases v <;> first | rfl | exact (Bool.false_ne_true h.symm).elim
theorem jl {v t:Expr} {line:Nat} {env:Env} (h:jf v=false):swapsWith v (some t) line env=pure false:=by
 cases v <;> first | rfl | exact (Bool.false_ne_true h.symm).elim
theorem GG {e:za} {x:Expr} {pos:Pos} (h:jf x=false) (he:SX S e x):S1 S W (.expr e) (.Expr x pos):=fun f ρ o s Q c p=>by
 rw [exec_Expr f.env _ _ (kK c.cx) (xX h)]
 exact wpAny_bind (wpAny_standAt (wpAny_bind (he c (Ps.bind p fun t ρ1 o1 v h1 tk c1 st hv q=>wpAny_dropValue (q o1 h1 tk c1 zC.refl)))))
theorem A2.set {α β:Type} {R:α->β->Prop} {ts:List α} {vs:List β} {t:α} {v:β} (j:Nat) (h:A2 R ts vs) (r:R t v):A2 R (ts.set j t) (vs.set j v):=A2.of (by rw [length_set,length_set];exact h.len) fun i x y e1 e2=>by
 by_cases ij:j=i
 ·subst ij
  have l:=(List.getElem?_eq_some_iff.mp e1).1
  rw [length_set] at l
  rw [getElem?_set_self l] at e1
  rw [getElem?_set_self (by rw [h.len];exact l)] at e2
  clear j l;obtain rfl:=sj e1;obtain rfl:=sj e2;exact r
 ·rw [getElem?_set_ne ij] at e1 e2
  exact h.at e1 e2
theorem GK {o' i e:za} {eo ei v:Expr} {p1 pos:Pos} (he:SE S e v) (ho:SP S o' eo) (hi:SE S i ei):S1 S W (.asub o' i e) (.Assign [.Subscript eo ei p1] v pos):=fun f ρ o s Q c p=>by
 have p:Ps S f Q o s (((S.E e ρ).on ρ).bind fun t ρ=>((vP S.G S.g.sh S.C o' ρ).on ρ).bind fun xq ρ=>((S.E i ρ).on ρ).bind fun k ρ=>VR.opt (yB S.g.sh xq ρ) fun ts=>VR.opt (K3 (S.c e) ts k t) fun ts=>.ok .next (qE xq (.nd .lst ts) ρ)):=p
 refine wpAny_Assign_Subscript (he c.cx (Ps.onB c p fun t v h1 tk1 r1 g1 hv q1=>ho (s:=up s h1 tk1) (c.grow r1 g1) (Ps.onB (s:=up s h1 tk1) (c.grow r1 g1) q1 fun xq a h2 tk2 r2 g2 pl q2 =>
  hi (s:=up s h2 tk2) ((c.grow r1 g1).grow r2 g2).cx (Ps.onB (s:=up s h2 tk2) ((c.grow r1 g1).grow r2 g2) q2 fun k kv h3 tk3 r3 g3 hk q3=>?_)))) (by clear he ho hi p;cases v <;> rfl)
 refine ob12 q3.opt fun ts e1 q3=>?_
 refine ob36 (K6 (pl.grow g3) e1) fun a ws n ez1x3 lf oa ga la z=>?_;clear eo ei p1 pos he ho hi p q1 q2 e1;subst ez1x3
 refine ob12 q3.opt fun ts' e2 q3=>?_
 unfold K3 at e2
 clear o' p;cases st:zM (S.c e) t with
 |false=>rw [st] at e2;exact no1 e2
 |true =>
  rw [st] at e2
  obtain ⟨kk,kt,rfl,rfl,e2⟩:=yD hk e2
  by_cases l:0<=kk/\kk<ts.length
  ·rw [if_pos l] at e2
   clear i hk;obtain rfl:=sj e2
   have la':ws.length<=1048576:=la
   have ll:=z.len
   refine u7 (s:=up s h3 tk3) (S:=S) ga l.1 (by omega) (by show kk<ws.length;(exact Dz l ll)) ?_
   have rv:Rd S.B h3 (imm o) t v:=((hv.st st).grow g2).grow g3
   obtain ⟨c3,st3⟩:=Q3 (h':=h3.update a (Obj.mapSeq (·.setIfInBounds kk.toNat v))) (ys':=ws.set kk.toNat v) (((c.grow r1 g1).grow r2 g2).grow r3 g3) (pl.grow g3) lf oa ga xQ (KZ ga (by simp)) (by rw [length_set];exact la) (z.set kk.toNat rv)
   exact q3 o _ tk3 c3 st3.toS
  ·rw [if_neg l] at e2;clear i c h1 tk1 r1 g1 hv r2 g2 pl r3 g3 hk q3 ws n lf oa ga la z;exact no1 e2
theorem VX (inj:kS S.sm):∀ {xs:List Nat} {elts:List Expr} {ts:List Tr} {ws:List Value} {ρ ρ':VS} {s:Shared} {Q:Unit->Shared->Prop} {E:Value->Shared->Prop},kR S.sc S.sm xs elts=true->jR S.g.sh xs ts ρ=some ρ'->A2 (Rd S.B s.heap (imm o)) ts ws->CxS S f ρ o s.heap ->
  (∀ h' tk,CxS S f ρ' o h'->zC frS o o s.heap h'->Q () (up s h' tk))->wpAny S.M f.A (assignInOrder ((assignEach elts f.env).map (·.2)) ws) Q E s
 | [],elts,ts,ws,ρ,ρ',s,Q,E,hc,hb,hv,c,k=>by
  rw [isEmpty_iff.mp (show elts.isEmpty=true from hc)]
  cases ts with
  |nil =>
   obtain rfl:=sj hb
   rw [show ws=[] from hv]
   exact wpAny_pure (k s.heap s.toks c zC.refl)
  |cons=>exact no1 hb
 |i::is,[],_,_,_,_,_,_,_,hc,_,_,_,_=>no3 hc
 |i::is,e::r,ts,ws,ρ,ρ',s,Q,E,hc,hb,hv,c,k=>by
  obtain ⟨hc1,hc2⟩:=and_eq_true_iff.mp hc
  refine ob22 (y9 hc1) fun x px ez0x2 hx=>?_;clear hc1;subst ez0x2
  cases ts with
  |nil=>exact no1 hb
  |cons t ts =>
   refine ob23 hv fun w1 ws' ez4x2 hw1 hws=>?_;clear hv;subst ez4x2
   have hb:cond (S.g.sh.getD i .i).isI (jR S.g.sh is ts (ρ.set i (some t))) none=some ρ':=hb
   cases ei:(S.g.sh.getD i .i).isI with
   |false=>rw [ei] at hb;exact no1 hb
   |true =>
    rw [ei] at hb
    have es:=Jp ei
    show wpAny S.M f.A (holding ws' (assign (.Name x px) f.env w1) >>= fun _=>assignInOrder ((assignEach r f.env).map (·.2)) ws') Q E s
    refine wpAny_bind (wpAny_holding (wpAny_bind (wpAny_standAt (wpAny_bindName (vU inj hx c (w9 (.inl (by rw [es];rfl))) (fun _=>by rw [es];exact hw1) fun h1 tk1 c1 st1 _=>?_)))))
    refine VX inj hc2 hb (hws.imp fun _ _ z=>z.next st1 (.inl rfl)) c1 fun h2 tk2 c2 st2=>k h2 tk2 c2 (st1.trans st2)
theorem Qj {env:Env} {sc:Scope} {sm:List (Str × Nat)} {sh:List Sh}:∀ {xs:List Nat} {elts:List Expr} {ts:List Tr} {ρ ρ':VS},kR sc sm xs elts=true->jR sh xs ts ρ=some ρ'->elts.length=ts.length/\(assignEach elts env).length=elts.length/\(assignEach elts env).findIdx? (·.1)=none
 | [],elts,ts,ρ,ρ',hc,hb=>by
  rw [isEmpty_iff.mp (show elts.isEmpty=true from hc)]
  cases ts with
  |nil=>exact ⟨rfl,rfl,rfl⟩
  |cons=>exact no1 hb
 |i::is,[],_,_,_,hc,_=>no3 hc
 |i::is,e::r,ts,ρ,ρ',hc,hb=>by
  obtain ⟨hc1,hc2⟩:=and_eq_true_iff.mp hc
  refine ob22 (y9 hc1) fun x px ez2x2 hx=>?_;clear hc1 hx;subst ez2x2
  cases ts with
  |nil=>exact no1 hb
  |cons t ts =>
   have hb:cond (sh.getD i .i).isI (jR sh is ts (ρ.set i (some t))) none=some ρ':=hb
   revert hb;cases (sh.getD i .i).isI with
   |false=>intro hb;exact no1 hb
   |true =>
    intro hb
    refine yP (Qj (env:=env) hc2 hb) fun h1 h2 h3=>?_
    refine ⟨congrArg (·+1) h1,congrArg (·+1) h2,?_⟩
    show ((false,assign (.Name x px) env)::assignEach r env).findIdx? (·.1)=none
    rw [List.findIdx?_cons]
    show Option.map _ _=none
    rw [h3];rfl
theorem vA {elts:List Expr} {k:Nat} {p1:Pos} {v:Expr} {env:Env} (h:ut v=false):swappedStores [.Tuple elts k p1] v env=pure none:=by
 cases v <;> first | rfl | exact (Bool.false_ne_true h.symm).elim
theorem GJ {xs:List Nat} {e:za} {elts:List Expr} {v:Expr} {k:Nat} {p1 pos:Pos} (inj:kS S.sm) (hc:kR S.sc S.sm xs elts=true) (ht:ut v=false) (hn:jf v=false) (he:SX S e v):S1 S W (.atup xs e) (.Assign [.Tuple elts k p1] v pos):=fun f ρ o s Q c p=>by
 refine PyProof.Rows.Assign_Tuple (he c (Ps.bind p fun t ρ1 o1 u h1 tk c1 st hu q=>?_)) (show swapsWithSole [.Tuple elts k p1] v pos.line f.env=pure false from (jl (t:=.Tuple elts k p1) (line:=pos.line) (env:=f.env) hn)) (vA ht)
 have q:Ps S f Q o1 (up s h1 tk) (((cond (S.c e).isI ((Ex.opt (Ue t)).bind fun ts=>Ex.opt (jR S.g.sh xs ts ρ1)) .stuck).on ρ1).bind fun ρ' _=>.ok .next ρ'):=q
 clear v pos ht hn he p st;cases ei:(S.c e).isI with
 |false=>rw [ei] at q;exact q.elim
 |true =>
  rw [ei] at q
  rw [Jp ei] at hu
  cases t with
  |sc=>exact q.elim
  |nd l ts=>cases l with
   |tup =>
    have q:Ps S f Q o1 (up s h1 tk) (((Ex.opt (jR S.g.sh xs ts ρ1)).on ρ1).bind fun ρ' _=>.ok .next ρ'):=q
    cases hb:jR S.g.sh xs ts ρ1 with
    |none=>rw [hb] at q;exact q.elim
    |some ρ' =>
     rw [hb] at q
     refine ob25 hu.node fun a ys ez6x2 _ wz6x4 el es=>?_;clear hu;subst ez6x2;obtain ⟨ly,n,ga⟩:=wz6x4
     refine yP (Qj (env:=f.env) hc hb) fun l1 l2 l3=>?_
     show wpAny S.M f.A (standAt p1 >>= fun _=>unpack (.ref a) (assignEach elts f.env)) _ f.X.E (up s h1 tk)
     refine wpAny_bind (wpAny_standAt (wpAny_unpack_tuple c.cx.ok.handled (yN ga) (by rw [l2,l1];simp [el]) l3 fun h2 eb=>?_))
     have kk:∀ b ob,h1.get? b=some ob->h2.get? b=some ob:=fun b ob e=>eb b ob (ne_of_lt (Heap.lt_size e)) e
     have gr:zA h1 h2:=fun b _=>zb (kk b)
     have c2:=c1.grow (c1.cx.rel.grow kk) gr
     refine VX (s:=up s h2 tk) inj hc hb (by simpa using (A2.of el es).imp fun _ _ z=>Rd.grow gr z) c2 fun h3 tk3 c3 st3=>?_
     exact q o1 h3 tk3 c3 (zC.trans (zA.step gr) st3)
   | _=>exact q.elim
end
section
variable {S:Su} {f:Fr} {ρ:VS} {o o':Own} {s:Shared} {h h' h0:Heap} {g:yd} {F:Nat->Option zr} {mg mb:Str->Option Value} {Q:Flow->Shared->Prop} {W:Nat}
theorem Kn {α:Type} {xs:List α} {t x:α} {j:Nat} (e:(xs++[t])[j]?=some x):xs[j]?=some x\/(j=xs.length/\x=t):=by
 by_cases lj:j<xs.length
 ·rw [getElem?_append_left lj] at e;exact .inl e
 ·have lj:=le_of_not_lt lj
  rw [getElem?_append_right lj] at e
  cases ej:j-xs.length with
  |succ n=>rw [ej] at e;exact no1 e
  |zero=>rw [ej] at e;obtain rfl:=sj e;exact .inr ⟨le_antisymm (sub_eq_zero_iff_le.mp ej) lj,rfl⟩
theorem Wy {α:Type} {k:Nat} {xs ys:List α} {t:α} (e:(if k<xs.length then some (xs.set k t) else if k=xs.length then some (xs++[t]) else none)=some ys):(ys.length=if k<xs.length then xs.length else xs.length+1)/\k<=xs.length/\∀ (j:Nat) x,ys[j]?=some x->(j=k/\x=t)\/(j≠k/\xs[j]?=some x):=by
 by_cases l:k<xs.length
 ·obtain rfl:=sj (Eq.trans (Eq.symm (if_pos l)) e)
  refine ⟨by rw [length_set,if_pos l],Nat.le_of_lt l,fun j x e=>?_⟩
  by_cases kj:k=j
  ·subst kj;obtain rfl:=sj (Eq.trans (Eq.symm (getElem?_set_self l)) e);exact .inl ⟨rfl,rfl⟩
  ·rw [getElem?_set_ne kj] at e;exact .inr ⟨Ne.symm kj,e⟩
 ·rw [if_neg l] at e
  by_cases l2:k=xs.length
  ·obtain rfl:=sj (Eq.trans (Eq.symm (if_pos l2)) e)
   refine ⟨by rw [if_neg l,length_append];rfl,le_of_eq l2,fun j x e=>?_⟩
   rcases Kn e with e | ⟨e1,e2⟩
   ·exact .inr ⟨fun z=>l (z▸(List.getElem?_eq_some_iff.mp e).1),e⟩
   ·exact .inl ⟨e1.trans l2.symm,e2⟩
  ·rw [if_neg l2] at e;clear l l2;exact no1 e
theorem ZW {k:Nat} (h:k<3):ze k∈([ze 0,ze 1,ze 2]:List Str):=TU (Q:=fun k=>ze k∈([ze 0,ze 1,ze 2]:List Str)) h (.head _) (.tail _ (.head _)) (.tail _ (.tail _ (.head _)))
theorem UO {k:Nat} {p:List Nat} (h:k<2):Y8 (k::p)=false:=TU (Q:=fun k=>k<2->Y8 (k::p)=false) (lt_succ_of_lt h) (fun _=>rfl) (fun _=>rfl) (fun z=>absurd z (lt_irrefl 2)) h
theorem Ve {sh:List Sh} {e:za} (h:Wq e=true):kw sh e=true:=by
 cases e with
 |lst es=>cases es with
  |nil=>rfl
  | _=>exact no3 h
 | _=>exact no3 h
theorem Vk {c:Sh} {x k:Nat} {t:Tr} {ρ:VS} {ts':List Tr} {P:Prop} (h:Zs c x k t ρ=some ts') (cc:∀ ts,ρ[x]?=some (some (.nd .inst ts))->ts.length<=3->(if k<ts.length then some (ts.set k t) else if k=ts.length then some (ts++[t]) else none)=some ts'->zM c t=true->P):P:=by
 unfold Zs at h
 revert h cc;cases zM c t with
 |false=>intro h;exact no1 h
 |true =>
  intro h cc
  refine ob12 (bind_eq_some_iff.mp h) fun y e2 h=>?_
  refine ob12 (bind_eq_some_iff.mp h) fun t0 e3 h=>?_
  subst e3
  cases t0 with
  |sc=>exact no1 h
  |nd l ts=>cases l with
   |inst =>
    have h:(if ts.length<=3 then (if k<ts.length then some (ts.set k t) else if k=ts.length then some (ts++[t]) else none) else none)=some ts':=h
    by_cases l3:ts.length<=3
    ·rw [if_pos l3] at h;exact cc ts e2 l3 h rfl
    ·rw [if_neg l3] at h;exact no1 h
   | _=>exact no1 h
theorem Uw {i:Nat} {e:za} {k:Nat} {x:Str} {v:Expr} {px p1 pos:Pos} (G:GOk g F S.B mg mb) (ht:kJ (g.lookup qi)=true) (hk:k<3) (hc:jf v=false) (he:E3 S e v) (hv:xP S.sc S.sm x i=true) :
  S1 S W (.aattr (.loc i) k e) (.Assign [.Attribute (.Name x px) (ze k) p1] v pos):=fun f ρ o s Q c p=>by
 refine ob11 (je ht) fun f0 hf=>?_
 refine ob27 ((G.tab f0 hf).2) fun N mN TC _ t1 t2 t3 t4 _=>?_
 refine yP (ya hv) fun v1 v2 v3=>?_
 refine zc (Ps.cond (show Ps S f Q o s (cond (decide (S.g.sh.getD i .i=.T)&&(Nat.blt k 2||Wq e)) (((S.E e ρ).on ρ).bind fun t ρ=>VR.opt (Zs (S.c e) i k t ρ) fun ts=>.ok .next (qE (i,[]) (.nd .inst ts) ρ)) .stuck) from p)) fun ok p=>?_
 refine zc (and_eq_true_iff.mp ok) fun ok1 ok2=>?_
 have sx:=of_decide_eq_true ok1
 have fin:∀ {o1:Own} {h1:Heap} {tk:Nat} {t:Tr} {w:Value},CxS S f ρ o1 h1->zC frS o o1 s.heap h1->Rd S.B h1 (fun p=>cO o1 i .T (k::p)) t w->Ps S f Q o s (VR.opt (Zs (S.c e) i k t ρ) fun ts=>.ok .next (qE (i,[]) (.nd .inst ts) ρ)) ->
   wpAny S.M f.A (eval (.Name x px) f.env) (fun ov s₂=>wpAny S.M f.A (setAttr ov (ze k) w) (fun _=>Q .next) f.X.E s₂) f.X.E (up s h1 tk):=fun {o1 h1 tk t w} c1 st1 rw' q=>by
  refine ob12 q.opt fun ts' e1 q=>?_
  refine Vk e1 fun ts e2 l3 e1 _=>?_
  clear p1 pos ht hv hf t1 t2 ok ok1
  refine ob12 c1.vl fun u b r=>?_
  refine ob12 (r.get i _ e2) fun w0 z1 z2=>?_
  have z2':=z2
  rw [sx] at z2
  refine ob25 z2.node fun a ys ez6x2 oa wz6x4 el es=>?_;clear z2';subst ez6x2;refine ob12 wz6x4 fun dx od I=>?_;clear wz6x4
  have oa:o1 a=some (i,[]):=oa
  have od:o1 dx=some (i,[3]):=od
  refine jB (s:=up s h1 tk) c1.cx.frm v2 (b x i _ (by rw [c1.cx.kind];exact v1) v3 z1) ?_
  refine yP (Wy e1) fun ll kl fg=>?_
  obtain ⟨ys',ey⟩:∃ ys',(if k<ys.length then some (ys.set k w) else if k=ys.length then some (ys++[w]) else none)=some ys':=by
   rw [el]
   by_cases l:k<ts.length
   ·exact ⟨_,if_pos l⟩
   ·exact ⟨_,(if_neg l).trans (if_pos (le_antisymm kl (le_of_not_lt l)))⟩
  refine yP (Wy ey) fun ll' _ fg'=>?_
  refine ob28 (id I) fun ob mA i1 i3 i4 i5 i6 i7 i8 i9=>?_
  have kb:∀ b ob,S.B.get? b=some ob->h1.get? b=some ob:=c1.cx.rel.base
  refine ob11 (vI (TC.keeps kb)) fun xr hC=>?_
  have aB:S.B.get? a=none:=(c1.cx.rel.own a (by rw [oa];exact fun z=>nomatch z)).1
  have aC:a≠QU S.B:=fun z=>by
   refine ob11 (vI TC) fun xr hC=>?_
   rw [<- z,aB] at hC;clear px v1 v2 v3 kl ey aB;exact no1 hC
  have ii:h1.Inst a (QU S.B) mA:=⟨ob,i1,i3,i5,.inr ⟨dx,i4,i6,i7⟩⟩
  refine store_attr (h:=h1) PySem.F.store_object hC (TC.keeps kb).ns t3 (t4 k hk) (KU k hk) aC ii (fun h' tk' I' kk same=>?_) (fun y hy=>i9 y hy) (by decide)
  have k2':∀ b x,b≠a->b≠dx->h1.get? b=some x->h'.get? b=some x:=fun b x n1 n2 e=>kk b x n1 (fun o₀ dx' e1 e2=>by rw [i1] at e1;clear px TC t3 t4 v1 v2 v3 kl ey i3 i5 i6 i7 kb xr hC aB aC ii;obtain rfl:=sj e1;obtain rfl:=sj (i4.symm.trans e2);exact n2) e
  refine ob15 (same ob i1) fun o2 e4 c2 d2 _ dk=>?_
  have dd2:=dk dx i4
  have inst':wB S.B h' a dx ys':=by
   refine ob14 I' fun o3 f2 f3 nc2 hd2=>?_;clear I'
   rw [e4] at f2;clear x px TC t3 t4 v1 v2 v3 kl ey i1 i3 i4 i5 i6 i7 kb xr hC aB aC ii same c2 d2 dk;obtain rfl:=sj f2
   rcases hd2 with ⟨z,_⟩ | ⟨d',y1,y2,y3⟩
   ·exact no2 (dd2.symm.trans z)
   ·obtain rfl:=sj (dd2.symm.trans y1)
    refine ⟨o2,_,e4,f3,dd2,nc2,y2,y3,fun j y hj ej=>?_,fun y hy=>?_⟩
    ·clear dd2 f3 nc2 y2 y3;rcases fg' j y ej with ⟨z1,z2⟩ | ⟨z1,z2⟩
     ·clear ej;subst z1 z2;exact if_pos rfl
     ·rw [if_neg fun z'=>z1 (JD hk hj z')];exact i8 j y hj z2
    ·by_cases z:y=ze k
     ·exact eqr z (ZW hk)
     ·rw [if_neg z] at hy;exact i9 y hy
  have kl2:∀ b ob,¬ (b=a\/b=dx)->look h1 b=some ob->look h' b=some ob:=fun b ob n=>zb fun ob e=>k2' b ob (fun z=>n (.inl z)) (fun z=>n (.inr z)) e
  obtain ⟨c3,st3⟩:=c1.set (P:=fun b=>b=a\/b=dx) (t':=.nd .inst ts') b r e2 z1 (fun z y=>by clear x px TC t3 t4 v1 v2 v3 c1 z1 z2 kl ey mA i1 i3 i4 i5 i6 i7 i8 i9 kb xr hC aB aC ii I' same c2 d2 dk dd2;rcases y with y | y;exact ⟨[],y▸oa⟩;exact ⟨[3],y▸od⟩) (fun b ob n e=>k2' b ob (fun z=>n (.inl z)) (fun z=>n (.inr z)) e) (fun z y=>by
   clear x px TC t3 t4 v1 v2 v3 c1 z1 z2 kl ey mA i1 i3 i4 i5 i6 i7 i8 i9 kb xr hC aB aC ii I' same k2' c2 d2 dk dd2;rcases y with y | y
   ·exact ⟨_,y▸e4⟩
   ·refine ob27 (id inst') fun _ _ _ _ _ _ _ y7 _=>?_
    refine ob32 y7 fun ob _ _ e _=>?_;clear y7
    exact ⟨ob,y▸e⟩) (by
   rw [sx]
   have nb:∀ {j:Nat} {p:List Nat} {b:Addr},cO o1 i .T (j::p) b->j≠3->¬ (b=a\/b=dx):=fun {j p b} f1 j3 y=>by
    have f1:o1 b=cond (Y8 (j::p)) (some (i,j::p)) none:=f1
    clear x px TC t3 t4 v1 v2 v3 sx c1 z1 z2 kl ey mA i1 i3 i4 i5 i6 i7 i8 i9 kb xr hC aB aC ii I' same k2' c2 d2 dk dd2;rcases y with y | y
    ·rw [y,oa] at f1;exact nomatch (Prod.mk.inj (wU f1)).2
    ·rw [y,od] at f1;exact j3 (List.cons.inj (Prod.mk.inj (wU f1)).2).1.symm
   refine .nd oa ⟨dx,od,inst'⟩ (by rw [ll,ll',el]) fun j tt vv q1 q2=>?_
   clear x px TC t3 t4 v1 v2 v3 sx c1 z1 z2 oa el od ll kl ey ll' mA i1 i3 i4 i5 i6 i7 i8 i9 kb xr hC aB aC ii I' same k2' c2 d2 dk dd2 inst';rcases fg j tt q1 with ⟨a1,a2⟩ | ⟨a1,a2⟩
   ·clear oa od fg;subst a1 a2
    rcases fg' j vv q2 with ⟨_,b2⟩ | ⟨b1,_⟩
    ·subst b2
     exact rw'.mono fun p b ob f1 f2=>⟨f1,kl2 b ob (nb f1 (by exact Dy hk)) f2⟩
    ·exact absurd rfl b1
   ·clear rw' oa od fg;rcases fg' j vv q2 with ⟨b1,_⟩ | ⟨_,b2⟩
    ·exact absurd b1 a1
    ·exact (es j tt vv a2 b2).mono fun p b ob f1 f2=>⟨f1,kl2 b ob (nb f1 (ne_of_lt (lt_of_lt_of_le (List.getElem?_eq_some_iff.mp a2).1 l3))) f2⟩)
  exact q o1 h' tk' (by rw [kz e2];exact c3) (st1.trans st3.toS)
 by_cases k2:k<2
 ·refine plainObj_wpAny_Assign_Attribute (he.E c.cx (Ps.onS (V:=RV S (cS o (S.c e))) c p fun t w h1 tk r1 g1 hw q=>?_)) (jl hc)
  refine ob12 q.opt fun ts' e1 _=>?_
  refine Vk e1 fun _ _ _ _ st=>?_
  refine fin (c.grow r1 g1) (zA.step g1) ((hw.st st).to fun p b z=>?_) q
  show o b=cond (Y8 (k::p)) _ none
  rw [UO k2];exact z
 ·have kk:k=2:=le_antisymm (le_of_lt_succ hk) (le_of_not_lt k2)
  have hn:Wq e=true:=by rw [kk] at ok2;exact ok2
  refine plainObj_wpAny_Assign_Attribute (he.R (Ve hn) c.cx (Ps.onS (V:=RW S o s.heap) c p fun t w h1 tk r1 g1 hw q=>?_)) (jl hc)
  refine ob12 c.vl fun u b r=>?_
  refine ob12 q.opt fun ts' e1 _=>?_
  refine Vk e1 fun _ e2 _ _ _=>?_
  have xb:i<bB:=lt_of_lt_of_le (List.getElem?_eq_some_iff.mp e2).1 r.small
  cases t with
  |sc y=>exact fin (c.grow r1 g1) (zA.step g1) (.sc hw) q
  |nd l ts =>
   refine ob37 hw fun D ys n ez18x3 ez18x4 e3 e4 e5 e6 e7=>?_;clear hw;clear e4;subst ez18x3;subst ez18x4
   refine fin (o1:=qI o D (i,[2])) (t:=.nd .lst ts) (w:=.ref D) (c.relab (fun b ob e=>⟨g1 b ob e,yw e3 e⟩) (qQ r1 (c.cx.rel.freeB e3) ⟨_,e5⟩) (qH c.cx.flo (jG xb))) (fun b ob _ e=>⟨g1 b ob e,yw e3 e⟩) (eqr kk (.nd (k:=.lst) (yQ ..) ⟨e6,n,e5⟩ e7.len fun j t v q1 q2=>(e7.at q1 q2).to fun p b q=>?_)) q
   refine zc (v9 q) fun n1 n2=>?_
   exact (ye n1).trans n2
theorem Yq {o' e:za} {k:Nat} {st:Stmt} (z:zQ o'=none):S1 S W (.aattr o' k e) st:=fun f ρ o s Q c p=>by
 have h:S.X W (.aattr o' k e) ρ=.stuck:=by show (match zQ o' with | some x=>_ | none=>_)=_;rw [z]
 rw [h] at p;exact p.elim
end
section
variable {S:Su} {f:Fr} {ρ:VS} {o o':Own} {s:Shared} {h h' h0:Heap} {g:yd} {F:Nat->Option zr} {mg mb:Str->Option Value} {Q:Flow->Shared->Prop} {W:Nat}
theorem CxS.drop {z:Addr} {o2:Own} (c:CxS S f ρ o h) (oz:o z=some (bL,[])) (n2:o2 z=none) (e2:∀ b,b≠z->o2 b=o b) (f2:yH o2) (keep:∀ b ob,b≠z->h.get? b=some ob->h'.get? b=some ob) (nl:f.env.locals≠z) (nc:∀ x,f.env.cells.lookup x≠some z) (nf:∀ e,e∈f.X.l->e.frame≠some z):CxS S f ρ o2 h':=by
 have kl:∀ b ob,b≠z->look h b=some ob->look h' b=some ob:=fun b ob n=>zb fun ob e=>keep b ob n e
 have k:xw f.env h h':=fun b ob q e=>kl b ob (fun y=>by
  rcases q with q | ⟨x,q⟩
  ·exact nl (q.symm.trans y)
  ·exact nc x (y▸q)) e
 refine ob12 c.vl fun u b r=>?_
 have b':Bnd f.env S.sm u h':=fun x i v a y e=>(b x i v a y e).kept k
 have nz:∀ {x:Nat} {t:Tr} {s:Sh} {p:List Nat} {a:Addr},ρ[x]?=some (some t)->cO o x s p a->a≠z:=fun e q y=>ZR (r.lt e) q (y▸oz)
 have r':VL S.B S.g f.vs o2 ρ u h':=⟨r.len,r.small,fun x t e=>(r.get x t e).imp fun v y=>⟨y.1,y.2.mono fun p a ob f1 f2=>⟨by rw [QN (e2 a (nz e f1))];exact f1,kl a ob (nz e f1) f2⟩⟩,r.par⟩
 refine ⟨⟨c.cx.scope,c.cx.ok,c.cx.frm.at k,Cx.ofVL b' r',⟨fun b ob e=>keep b ob (fun y=>by rw [y,(c.cx.rel.own z (by rw [oz];exact fun w=>nomatch w)).1] at e;clear k r nz;exact no1 e) (c.cx.rel.base b ob e),fun a n=>?_⟩,f2,c.cx.frames,fun e he=>?_,c.cx.here,c.cx.apart⟩,⟨by rw [e2 _ nl];exact c.lab.loc,fun x d q=>by rw [e2 d fun y=>nc x (y▸q)];exact c.lab.cell x d q⟩,fun a j p e l lb=>?_,u,b',r'⟩
 ·have na:a≠z:=fun y=>n (y▸n2)
  rw [e2 a na] at n
  exact ⟨(c.cx.rel.own a n).1,(c.cx.rel.own a n).2.imp fun ob=>keep a ob na⟩
 ·refine zc (c.cx.fok e he) fun h1 wz1=>?_;refine ob14 wz1 fun L h2 h3 h4 wz0=>?_;obtain ⟨m,h5⟩:=wz0
  have nL:L≠z:=fun y=>nf e he (y▸h2)
  exact ⟨h1,L,h2,by rw [e2 L nL];exact h3,h4,m,yF h5 fun ob=>kl L ob nL⟩
 ·have e1:=c.kl a j p e l lb
  exact (e2 a fun y=>by rw [y,oz] at e1;clear z o2 c oz n2 e2 f2 keep nl nc nf kl b e k y r b' nz r' l;obtain ⟨rfl,rfl⟩:=pj (sj e1);exact absurd lb (by decide)).trans e1
theorem UJ {b:Addr} (k:yH o):yH (qI o b (bL,[])):=fun a x p e z=>by
 by_cases q:a=b
 ·subst q;rw [yQ] at e;obtain ⟨rfl,rfl⟩:=pj (sj e);rfl
 ·rw [ye q] at e;exact k a x p e z
theorem WW {x:Str} {i:Nat} {t:Tr} {v:Value} {tk:Nat} {h1:Heap} {Cn:Addr} {m:Str->Option Value} {o2:Own} {E:Value->Shared->Prop} {Q:Shared->Prop} (inj:kS S.sm) (hs:stK S.sc S.sm x i=true) (c:CxS S f ρ o s.heap) (n:∀ s,S.g.ps[i]?=some s->s.own=false) (g1:zA s.heap h1) (r2:HB S.B o2 h1) (f2:yH o2) (k2:∀ b ob,look s.heap b=some ob->o2 b=o b) (n2:o2 Cn=none) (dC:s.heap.get? Cn=none) (ns:h1.Ns Cn m)
  (rd:Rd S.B h1 (fun p a=>a≠Cn/\cO o2 i (S.g.sh.getD i .i) p a) t v) (K:∀ h3 tk3,CxS S f (ρ.set i (some t)) o2 h3->zC frS o o2 s.heap h3->Q (up s h3 tk3)) :
  wpAny S.M f.A (storeName f.env x v) (fun _ s'=>∃ m,s'.heap.Ns Cn m/\∀ h3,Heap.SameBut Cn s'.heap h3->Q { s' with heap:=h3 }) E (up s h1 tk):=by
 have nC:∀ {b ob},look s.heap b=some ob->b≠Cn:=fun {b ob} e z=>by refine ob12 (zp e) fun _ y _=>?_;rw [z,dC] at y;clear z;exact no1 y
 have c2:CxS S f ρ (qI o2 Cn (bL,[])) h1:=c.relab (fun b ob e=>⟨g1 b ob e,(ye (nC e)).trans (k2 b ob e)⟩) (qQ r2 (c.cx.rel.freeB dC) (zZ ns)) (UJ f2)
 have nl:f.env.locals≠Cn:=by refine ob11 c.cx.frm.ns fun m' y=>?_;refine ob11 (zZ y) fun ob e=>?_;exact nC (zm e)
 have nc:∀ x,f.env.cells.lookup x≠some Cn:=fun x q=>by refine zc (c.cx.frm.cell x Cn q) fun wz3x0 _=>?_;obtain ⟨v,ob,e,_⟩:=wz3x0;exact nC (zm e) rfl
 have nf:∀ e,e∈f.X.l->e.frame≠some Cn:=fun e he q=>by
  refine zc (c.cx.fok e he) fun _ wz3=>?_;refine ob14 wz3 fun L h2 _ _ wz4=>?_;obtain ⟨m',h5⟩:=wz4
  refine ob11 (zZ h5) fun ob e0=>?_
  rw [q] at h2;clear c r2 dC m' he wz3 h5;obtain rfl:=sj h2
  exact nC (zm e0) rfl
 refine vU (s:=up s h1 tk) inj hs c2 n (fun _=>rd.to fun p a q=>by rw [QN (ye q.1)];exact q.2) fun h2 tk2 c3 st kp=>⟨m,yF ns fun ob=>zb fun ob e=>kp Cn ob (Ne.symm nl) nc e,fun h3 sb=>?_⟩
 refine K h3 tk2 (c3.drop (yQ ..) n2 (fun b n=>(ye n).symm) f2 (zg sb) nl nc nf) fun b ob q e=>?_
 have nb:=nC e
 have q':frS (qI o2 Cn (bL,[]) b):=by rw [ye nb,k2 b ob e];exact q
 exact ⟨zb (fun ob e=>zg sb b ob nb e) (st b ob q' (g1 b ob e)).1,k2 b ob e⟩
theorem Qk {i:Nat} {c0:Sh} {ts:List Tr} {ys:List Value} {D Cn:Addr} {k:Nat} (hi:i<bB) (hc:c0=.i\/c0=.L .i) (r0:HB S.B o h0) (fl:yH o) (r:HB S.B o h) (nDC:D≠Cn) (nD:h0.get? D=none) (l:ts.length<=lim) (gD:h.get? D=some (zf ys k)) (ol:∀ b ob,look h0 b=some ob->o' b=o b) (nC:h0.get? Cn=none) (oD:o' D=some (bL,[])) (oC':o' Cn=some (bL,[])) (it:jw S none o' h ts ys) :
  ∃ o2,HB S.B o2 h/\yH o2/\(∀ b ob,look h0 b=some ob->o2 b=o b)/\o2 Cn=none/\Rd S.B h (fun p a=>a≠Cn/\cO o2 i c0 p a) (.nd .lst ts) (.ref D):=by
 have imp:∀ {a:Addr},o' a=none->a≠Cn/\a≠D/\o a=none:=fun {a} q=>⟨fun z=>(by rw [z,oC'] at q;clear oC';exact no2 q),fun z=>(by rw [z,oD] at q;clear oD oC' z;exact no2 q),Classical.byContradiction fun n=>by
  refine zc (r0.own a n) fun _ wz4=>?_;refine ob11 wz4 fun ob' e'=>?_
  exact n ((ol a _ (zm e')).symm.trans q)⟩
 have kk:ys.length<=lim:=it.1▸l
 clear l ol oD oC';rcases hc with rfl | rfl
 ·exact ⟨o,r,fl,fun _ _ _=>rfl,r0.free nC,.nd ⟨nDC,r0.free nD⟩ ⟨kk,k,gD⟩ it.1 fun j t v q1 q2=>(it.2 j t v q1 q2).to fun p a q=>⟨(imp q).1,(imp q).2.2⟩⟩
 ·refine ⟨qI o D (i,[]),qQ r (r0.freeB nD) ⟨_,gD⟩,qH fl (jG hi),fun b ob e=>yw nD e,(ye (Ne.symm nDC)).trans (r0.free nC),.nd ⟨nDC,yQ ..⟩ ⟨kk,k,gD⟩ it.1 fun j t v q1 q2=>(it.2 j t v q1 q2).to fun p a q=>⟨(imp q).1,?_⟩⟩
  exact (ye (imp q).2.1).trans (imp q).2.2
theorem XW {X:Option Nat} {i:Nat} {m:za} {res:VS->Ex (List Tr)} {e1 tgt iter:Expr} {ifs:List Expr} {y:Str} {py pos cpos:Pos} {inner:Scope} (inj:kS S.sm) (hs:stK S.sc S.sm y i=true) (hb:swapsWith (.ListComp e1 [⟨tgt,iter,ifs,0⟩] inner cpos) (some (.Name y py)) pos.line f.env=pure true)
  (hE:S.E m ρ=(res ρ).bind mkL) (H:SC X S res e1 tgt iter ifs inner) (c:CxS S f ρ o s.heap) (n:∀ s,S.g.ps[i]?=some s->s.own=false) (p:Ps S f Q o s (((S.E m ρ).on ρ).bind fun t ρ=>.ok .next (ρ.set i (some t))))
  (lab:∀ ts D Cn o' h' ys k,HB S.B o h'->(∀ a,o' a≠none->o' a≠some (bL,[])->S.B.get? a=none/\∃ ob,h'.get? a=some ob)->(∀ b ob,look s.heap b=some ob->o' b=o b)->o' D=some (bL,[])->o' Cn=some (bL,[])->D≠Cn->s.heap.get? D=none->s.heap.get? Cn=none->h'.get? D=some (zf ys k)->ts.length<=lim->jw S X o' h' ts ys ->
   ∃ o2,HB S.B o2 h'/\yH o2/\(∀ b ob,look s.heap b=some ob->o2 b=o b)/\o2 Cn=none/\Rd S.B h' (fun p a=>a≠Cn/\cO o2 i (S.g.sh.getD i .i) p a) (.nd .lst ts) (.ref D)) :
  wpAny S.M f.A (PySem.exec (.Assign [.Name y py] (.ListComp e1 [⟨tgt,iter,ifs,0⟩] inner cpos) pos) f.env) Q f.X.E s:=by
 rw [hE] at p
 rw [arm_exec_Assign]
 refine wpAny_bind (wpAny_standAt (wpAny_bind ?_))
 rw [show swapsWithSole [.Name y py] (.ListComp e1 [⟨tgt,iter,ifs,0⟩] inner cpos) pos.line f.env=pure true from hb]
 refine wpAny_pure ?_
 rw [if_pos rfl]
 refine wpAny_bind ?_
 rw [arm_evalThenUse_ListComp]
 refine wpAny_bind (H c.cx ?_)
 clear pos cpos hb hE;revert p;cases res ρ with
 |exc d=>intro p;exact Pv.on (x:=(.exc d:Ex (List Tr))) (V:=fun _ _ _ (_:Value)=>True) (Q:=fun _ _=>True) (P:=frS) c p
 |stuck=>intro p;exact p
 |ok ts =>
  intro p
  intro D Cn o' h' tk ys k m r own fl' ol oD' oC' g d3 d4 d5 d8 d9 d10
  have p:Ps S f Q o s (((mkL ts).on ρ).bind fun t ρ=>.ok .next (ρ.set i (some t))):=p
  unfold mkL at p
  by_cases l:ts.length<=lim
  ·rw [if_pos l] at p
   refine ob15 (lab ts D Cn o' h' ys k r own ol oD' oC' d3 d4 d5 d8 l d9) fun o2 r2 f2 k2 n2 rd=>?_
   show wpAny S.M f.A (assign (.Name y py) f.env (.ref D)) _ f.X.E (up s h' tk)
   refine wpAny_bind (wpAny_standAt (wpAny_bindName (wpAny_mono (WW (Q:=Q .next) inj hs c n g r2 f2 k2 n2 d5 d10 rd fun h3 tk3 c3 st=>p o2 h3 tk3 c3 st) (fun _ s' z=>?_) fun _ _ z=>z)))
   refine ob12 z fun m' z1 z2=>?_
   exact ⟨m',z1,fun h3 sb=>wpAny_pure (wpAny_pure (z2 h3 sb))⟩
  ·rw [if_neg l] at p;exact p.elim
end
section
variable {S:Su} {f:Fr} {ρ:VS} {o o':Own} {s:Shared} {h h' h0:Heap} {g:yd} {F:Nat->Option zr} {mg mb:Str->Option Value} {Q:Flow->Shared->Prop} {W:Nat}
theorem Z2 {m:za} {c:Sh} (h1:kw S.g.sh m=false) (h2:VZ S.g.sh m=false) (h3:∀ c,vJ S.G c m=false):acq S.G S.g.sh c m=false:=by
 cases c with
 |L t=>cases t with
  |i=>show (kw S.g.sh m||vJ S.G _ m)=false;rw [h1,h3];rfl
  |L u=>clear h1;cases u with
   |i=>show (VZ S.g.sh m||vJ S.G _ m)=false;rw [h2,h3];rfl
   | _=>rfl
  | _=>rfl
 |D=>exact h3 _
 | _=>rfl
theorem KJ (G:GOk g F S.B mg mb) (AE:∀ m,PE S g m) {m:za} {v:Expr} (hc:UX m=true) (q:(chk g m S.sc S.sm).E v=true):LC none S m v/\S.c m=.i/\(∀ ρ,vX S.G S.g.sh S.C S.np m ρ=(S.E m ρ).on ρ)/\Wj m=none/\((∃ elt tgt it c,m=.comp elt tgt it c)\/∀ c,acq S.G S.g.sh c m=false):=by
 rcases UW hc with ⟨elt,tgt,it,c,rfl⟩ | ⟨elt,i,j,a,c,rfl⟩ | ⟨elt,i,j,a,b,rfl⟩
 ·exact ⟨xN (S:=S) noX (fun sc sm e q=>SE.el ((AE elt sc sm).1 _ q).E) (AE _) (AE _) q,rfl,fun _=>rfl,rfl,.inl ⟨_,_,_,_,rfl⟩⟩
 ·exact ⟨KI (S:=S) (AE _) (AE _) (AE _) q,rfl,fun _=>rfl,rfl,.inr fun c=>Z2 rfl rfl fun _=>rfl⟩
 ·exact ⟨KH (S:=S) G (AE _) (AE _) (AE _) q,rfl,fun _=>rfl,rfl,.inr fun c=>Z2 rfl rfl fun _=>rfl⟩
theorem QY {i:Nat} {e:za} {x:Str} {v:Expr} {px pos:Pos} (G:GOk g F S.B mg mb) (C:CS S g F) (AE:∀ m,PE S g m) (hnp:S.np=S.g.ps.length) (inj:kS S.sm) (hs:stK S.sc S.sm x i=true) (hX:X2 S e v) (q:(chk g e S.sc S.sm).E v=true) (qc:(!jf v||UX e)=true):S1 S W (.assign i e) (.Assign [.Name x px] v pos):=fun f ρ o s Q c p=>by
 rcases Bool.eq_false_or_eq_true (jf v) with hc | hc
 ·rw [hc] at qc
  refine YX (KJ G AE qc q) fun hl hi hv hn ha=>?_
  obtain ⟨e1,tgt,iter,ifs,inner,cpos,res,rfl,hl⟩:=hl
  have hb:∃ b,swapsWith (.ListComp e1 [⟨tgt,iter,ifs,0⟩] inner cpos) (some (.Name x px)) pos.line f.env=pure b:=⟨_,rfl⟩
  obtain ⟨b,hb⟩:=hb
  clear qc;cases b with
  |false=>exact JZ G C AE hnp inj hs hX q hb c p
  |true =>
   have p:Ps S f Q o s (match S.g.sh.getD i .i with
    | .i=>(vX S.G S.g.sh S.C S.np e ρ).bind fun t ρ=>cond (zM (S.c e) t) (.ok .next (ρ.set i (some t))) .stuck
    |s=>cond (decide (S.np<=i)) (((vN S.G S.g.sh S.C s e ρ).on ρ).bind fun t ρ=>.ok .next (ρ.set i (some t))) .stuck):=p
   have ib:=X9 inj hs
   cases es:S.g.sh.getD i .i with
   |i =>
    rw [es,hv,hi] at p
    have p:Ps S f Q o s (((S.E e ρ).on ρ).bind fun t ρ=>.ok .next (ρ.set i (some t))):=by
     clear hi hv;revert p;cases S.E e ρ with
     |ok t=>intro p;exact p
     |exc=>intro p;exact p
     |stuck=>intro p;exact p
    clear hi hv;rcases hl with hl | ⟨h1,h2⟩
    ·rw [hl] at p;exact p.elim
    ·exact XW inj hs hb (h1 ρ) h2 c (w9 (.inl (by rw [es];rfl))) p fun ts D Cn o' h' ys k r own ol oD oC nDC nD nC gD l it=>by rw [es];exact Qk ib (.inl rfl) c.cx.rel c.cx.flo r nDC nD l gD ol nC oD oC it
   |L t =>
    rw [es] at p
    obtain ⟨np,p⟩:=Ps.cond p
    have np:=w9 (S:=S) (.inr (hnp▸of_decide_eq_true np))
    have p2:Ps S f Q o s (((cond (acq S.G S.g.sh (.L t) e) (S.E e ρ) .stuck).on ρ).bind fun t ρ=>.ok .next (ρ.set i (some t))):=p
    clear p
    clear hi hv;cases ac:acq S.G S.g.sh (.L t) e with
    |false=>rw [ac] at p2;exact p2.elim
    |true =>
     rw [ac] at p2
     rcases ha with ⟨elt,tg,it,c0,rfl⟩ | ha
     ·cases t with
      |i =>
       rcases hl with hl | ⟨h1,h2⟩
       ·have p:Ps S f Q o s (((S.E (.comp elt tg it c0) ρ).on ρ).bind fun t ρ=>.ok .next (ρ.set i (some t))):=p2
        rw [hl] at p;exact p.elim
       ·exact XW inj hs hb (h1 ρ) h2 c np p2 fun ts D Cn o' h' ys k r own ol oD oC nDC nD nC gD l it=>by rw [es];exact Qk ib (.inr rfl) c.cx.rel c.cx.flo r nDC nD l gD ol nC oD oC it
      |L u=>clear hl;cases u with
       |i =>
        have ac:kw S.g.sh elt=true:=by
         clear res;rcases or_eq_true_iff.mp ac with ac | ac
         ·exact ac
         ·exact no3 ac
        refine ob72 (xN (S:=S) (X:=some i) (fun x z=>by clear res;obtain rfl:=sj z;exact jG ib) (fun sc sm e q=>SR.el (((AE elt sc sm).1 _ q).R ac)) (AE it) (AE c0) q) fun e2 tg2 iter2 ifs2 inner2 pos2 res2 ee h=>?_
        clear res;cases ee
        rcases h with h | ⟨h1,h2⟩
        ·have p:Ps S f Q o s (((S.E (.comp elt tg it c0) ρ).on ρ).bind fun t ρ=>.ok .next (ρ.set i (some t))):=p2
         rw [show S.E (.comp elt tg it c0) ρ=.stuck from h ρ] at p;exact p.elim
        ·refine XW inj hs hb (h1 ρ) h2 c np p2 fun ts D Cn o' h' ys k r own ol oD oC nDC nD nC gD l it=>?_
         refine ob15 (Qv (h0:=s.heap) (jG ib) c.cx.rel c.cx.flo r nD l gD own ol oD it) fun o2 a1 a2 a3 a4 a5=>?_
         refine ⟨o2,a1,a2,a3,a4 Cn nC (Ne.symm nDC) oC,a5.to fun p a z=>⟨fun y=>nDC (z.1 (y▸oC)▸y),?_⟩⟩
         rw [es];exact z.2
       | _=>clear res hb ib np p2;cases ac
      | _=>clear hl hb ib np p2;cases ac
     ·rw [ha] at ac;clear hl hb ib np p2;exact no3 ac
   |T =>
    rw [es] at p
    refine zc (Ps.cond p) fun _ p=>?_
    have p:Ps S f Q o s (((cond (Kj e&&decide ((S.G 79).ps=[.T])) (GW (S.C 79 [.nd .inst []])) .stuck).on ρ).bind fun t ρ=>.ok .next (ρ.set i (some t))):=p
    rw [show Kj e=false by unfold Kj;rw [hn]] at p;exact p.elim
   |D =>
    rw [es] at p
    refine zc (Ps.cond p) fun _ p=>?_
    have p:Ps S f Q o s (((cond (acq S.G S.g.sh .D e) (S.E e ρ) .stuck).on ρ).bind fun t ρ=>.ok .next (ρ.set i (some t))):=p
    clear hl hi hv hn hb ib;rcases ha with ⟨elt,tg,it,c0,rfl⟩ | ha
    ·exact p.elim
    ·rw [ha] at p;exact p.elim
   |b=>rw [es] at p;refine zc p.cond fun _ p=>?_;exact p.elim
   |u=>rw [es] at p;refine zc p.cond fun _ p=>?_;exact p.elim
 ·exact JZ G C AE hnp inj hs hX q (jl hc) c p
end
section
variable {S:Su} {f:Fr} {ρ:VS} {o o':Own} {s:Shared} {h h' h0:Heap} {g:yd} {F:Nat->Option zr} {mg mb:Str->Option Value} {Q:Flow->Shared->Prop} {W:Nat}
noncomputable def AC (h:Heap) (I:Addr):Prop:=∃ ob vs T,h.get? I=some ob/\ob.data=.fields vs/\ob.cls=.type T
theorem Rd.notIt {B:Heap} {I:Addr} {c:Cl} {t:Tr} {v:Value} (r:Rd B h c t v) (k:AC h I):Rd B h (fun p a=>c p a/\a≠I) t v:=by
 refine ob33 k fun ob vs T e d cl=>?_;clear k
 induction r with
 |sc q=>exact .sc q
 |nd e1 e2 e3 _ ih =>
  rename_i c0 k0 ts a ws _
  have seq:∀ {cc:Value} {n:Nat},h.get? a=some { cls:=cc,dict:=none,data:=.seq ws.toArray n,slots:=#[] }->a≠I:=fun q z=>by
   rw [z,e] at q;clear c;obtain rfl:=sj q;cases d
  clear c;cases k0 with
  |lst=>refine zc e2 fun l wz1=>?_;clear e2;refine ob11 wz1 fun n q=>?_;clear wz1;exact .nd ⟨e1,seq q⟩ ⟨l,n,q⟩ e3 fun j t v a b=>ih j t v a b
  |ro=>refine zc e2 fun l wz2=>?_;clear e2;refine ob11 wz2 fun n q=>?_;clear wz2;exact .nd ⟨e1,seq q⟩ ⟨l,n,q⟩ e3 fun j t v a b=>ih j t v a b
  |tup=>refine zc e2 fun l wz3=>?_;clear e2;refine ob11 wz3 fun n q=>?_;clear wz3;exact .nd ⟨e1,seq q⟩ ⟨l,n,q⟩ e3 fun j t v a b=>ih j t v a b
  |inst =>
   refine ob12 e2 fun dx q1 q2=>?_;clear e2
   refine ob27 (id q2) fun oi mA i1 i3 i4 i5 i6 i7 i8=>?_
   refine .nd ⟨e1,fun z=>?_⟩ ⟨dx,⟨q1,fun z=>?_⟩,q2⟩ e3 fun j t v a b=>ih j t v a b
   ·rw [z,e] at i1;clear t v seq e1 q1 q2 i4 i5 i6 i8;obtain rfl:=sj i1;rw [cl] at i3;clear cl;cases i3
   ·refine ob33 i7 fun od es ep d1 d2 _=>?_;clear i7
    rw [z,e] at d1;clear t v a e cl seq z e1 q1 q2 oi i1 i3 i4 i5 i6 i8;cases d1;rw [d] at d2;clear ob d dx;cases d2
theorem CxS.iter {I:Addr} (c:CxS S f ρ o h) (k:AC h I) (oI:o I=none) (bI:S.B.get? I=none) (keep:∀ b ob,b≠I->h.get? b=some ob->h'.get? b=some ob):CxS S f ρ o h':=by
 have kl:∀ b ob,b≠I->look h b=some ob->look h' b=some ob:=fun b ob n=>zb fun ob e=>keep b ob n e
 have lab:∀ {b},o b≠none->b≠I:=fun n z=>n (z▸oI)
 have kf:xw f.env h h':=fun b ob q e=>kl b ob (lab (by
  clear oI;rcases q with q | ⟨x,q⟩
  ·rw [q,c.lab.loc];exact fun z=>nomatch z
  ·rw [c.lab.cell x b q];exact fun z=>nomatch z)) e
 refine ob12 c.vl fun u b r=>?_
 have b':Bnd f.env S.sm u h':=fun x i v a y e=>(b x i v a y e).kept kf
 have r':VL S.B S.g f.vs o ρ u h':=⟨r.len,r.small,fun x t e=>(r.get x t e).imp fun v y=>⟨y.1,(y.2.notIt k).mono fun p a ob f1 f2=>⟨f1.1,kl a ob f1.2 f2⟩⟩,r.par⟩
 refine ⟨⟨c.cx.scope,c.cx.ok,c.cx.frm.at kf,Cx.ofVL b' r',⟨fun b ob e=>keep b ob (fun y=>by rw [y,bI] at e;clear k oI bI kf r y;exact no1 e) (c.cx.rel.base b ob e),fun a n=>⟨(c.cx.rel.own a n).1,(c.cx.rel.own a n).2.imp fun ob=>keep a ob (lab n)⟩⟩,c.cx.flo,c.cx.frames,fun e he=>?_,c.cx.here,c.cx.apart⟩,c.lab,c.kl,u,b',r'⟩
 refine zc (c.cx.fok e he) fun h1 wz8=>?_;refine ob14 wz8 fun L h2 h3 h4 wz3=>?_;clear wz8;obtain ⟨m,h5⟩:=wz3
 exact ⟨h1,L,h2,h3,h4,m,yF h5 fun ob=>kl L ob (lab fun z=>by rw [z] at h3;clear c k oI bI keep kl b ob e lab z kf r b' r' he h1 h2 h4 m h5;rcases h3 with h3 | h3 <;> exact no1 h3)⟩
noncomputable def Fr.x (f:Fr) (E:Value->Shared->Prop):Fr:={ f with X:=⟨f.X.l,E⟩ }
theorem CxS.x {E:Value->Shared->Prop} (c:CxS S f ρ o h):CxS S (f.x E) ρ o h:=⟨⟨c.cx.scope,c.cx.ok,c.cx.frm,c.cx.vars,c.cx.rel,c.cx.flo,c.cx.frames,c.cx.fok,c.cx.here,c.cx.apart⟩,c.lab,c.kl,c.vl⟩
theorem CxS.ofx {E:Value->Shared->Prop} (c:CxS S (f.x E) ρ o h):CxS S f ρ o h:=⟨⟨c.cx.scope,c.cx.ok,c.cx.frm,c.cx.vars,c.cx.rel,c.cx.flo,c.cx.frames,c.cx.fok,c.cx.here,c.cx.apart⟩,c.lab,c.kl,c.vl⟩
theorem Zr {y:Nat} {b:zk} {x:Str} {px:Pos} {body:List Stmt} {ts:List Tr} {It:Nat->Value->Prop} {Ad:Addr->Prop} {Src:Heap->Prop} {I:Addr} {At:Nat->Heap->Prop} {h₁:Heap} {tk₁:Nat}
  (inj:kS S.sm) (hs:stK S.sc S.sm x y=true) (c:CxS S f ρ o s.heap) (HB':SL S W b body) (it:XI S.M ts.length It Ad Src I At) (ga:zA s.heap h0) (gb:zA h0 h₁) (i0:h0.get? I=none) (r₁:HB S.B o h₁) (at₁:At 0 h₁) (src₁:Src h₁)
  (had:∀ b,Ad b->b≠I/\frS (o b)) (rd:∀ j t v,ts[j]?=some t->It j v->Rd S.B h0 (cO o y (S.g.sh.getD y .i)) t v) (sy:S.g.sh.getD y .i=.i\/S.g.sh.getD y .i=.b) (P:Ps S f Q o s (jF (fun x ρ=>S.X W b (ρ.set y (some x))) ts ρ)) :
  codeAny S.M f.A (.forLoop (.Name x px) (.ref I) body [] f.env) (fun r s'=>match r with | .ok f=>Q f s' | .error e=>cameBackBy S.M f.A f.env f.X.E e s') (up s h₁ tk₁):=by
 have sI:s.heap.get? I=none:=qb ga i0
 have oI:=c.cx.rel.free sI
 have bI:=c.cx.rel.freeB sI
 have cO_fr:∀ {o:Own} {p:List Nat} {a:Addr},cO o y (S.g.sh.getD y .i) p a->frS (o a):=fun {o p a} q=>by
  rcases sy with e | e
  ·rw [e] at q;exact .inl q
  ·rw [e] at q;exact q
 refine codeAny_forLoop_any (fun k s'=>∃ j oj ρj hj tkj,k=ts.length-j/\j<=ts.length/\s'=up s hj tkj/\CxS S f ρj oj hj/\zC frS o oj s.heap hj/\zC frS o oj h0 hj/\oj I=none/\At j hj/\Src hj/\(∀ b,Ad b->oj b=o b)/\Ps S f Q o s (jF (fun x ρ=>S.X W b (ρ.set y (some x))) (ts.drop j) ρj))
  (fun k s' hI=>?_) ts.length ⟨0,o,ρ,h₁,tk₁,rfl,zero_le _,rfl,c.grow r₁ (fun b ob e=>gb b ob (ga b ob e)),zA.step fun b ob e=>gb b ob (ga b ob e),zA.step gb,oI,at₁,src₁,fun _ _=>rfl,P⟩
 refine ob58 hI fun j oj ρj hj tkj ez9x5 lj ez9x7 cj stj st0 oIj wz9=>?_;clear hI;clear h₁ tk₁ ga gb r₁ at₁ src₁ oI;subst ez9x5;subst ez9x7;refine Kb wz9 fun atj srcj adj Pj=>?_;clear wz9
 rcases Nat.lt_or_eq_of_le lj with lt | rfl
 ·rw [drop_eq_getElem_cons lt] at Pj
  refine it.item j f.A _ _ _ lt atj srcj fun v h1 tk1 hv at1 k1=>?_
  show wpAny S.M f.A (letOwnedTupleGo (.Name x px) (.ref I) v) _ _ (up s h1 tk1)
  refine wpAny_pure ?_
  show wpAny S.M f.A (assign (.Name x px) f.env v) _ _ (up s h1 tk1)
  have c1':=cj.iter (it.kind _ _ atj) oIj bI k1
  have ne0:∀ {b ob},look h0 b=some ob->b≠I:=fun {b ob} e z=>by refine ob12 (zp e) fun _ w _=>?_;rw [z,i0] at w;clear px i0 lj;exact no1 w
  have st1:∀ b ob,frS (o b)->look h0 b=some ob->look h1 b=some ob/\oj b=o b:=fun b ob q e=>⟨zb (fun ob e'=>k1 b ob (ne0 e) e') (st0 b ob q e).1,(st0 b ob q e).2⟩
  have rv:Rd S.B h1 (cO oj y (S.g.sh.getD y .i)) ts[j] v:=(rd j _ v (getElem?_eq_getElem lt) hv).mono fun p a ob q e=>⟨by rw [QN (st1 a ob (cO_fr q) e).2];exact q,(st1 a ob (cO_fr q) e).1⟩
  have nIl:f.env.locals≠I:=fun z=>by have:=c1'.lab.loc;rw [z,oIj] at this;clear px i0 rd cO_fr lj st0 hv ne0;exact no1 this
  have nIc:∀ w,f.env.cells.lookup w≠some I:=fun w q=>by have:=c1'.lab.cell w I q;rw [oIj] at this;clear px i0 rd cO_fr lj st0 hv ne0;exact no1 this
  have no:∀ s,S.g.ps[y]?=some s->s.own=false:=w9 (.inl (by clear px i0 rd cO_fr lj st0 hv ne0;rcases sy with e | e <;> (rw [e];rfl)))
  refine wpAny_bind (wpAny_standAt (wpAny_bindName (vU (s:=up s h1 tk1) inj hs c1' no (fun _=>rv) fun h2 tk2 c2 st2 kp=>?_)))
  have ne:∀ {b ob},look s.heap b=some ob->b≠I:=fun {b ob} e z=>by refine ob12 (zp e) fun _ w _=>?_;rw [z,sI] at w;clear px inj hs i0 rd sy cO_fr lj st0 hv c1' ne0 no;exact no1 w
  have kI:∀ ob,look h1 I=some ob->look h2 I=some ob:=fun ob=>zb fun ob e=>kp I ob (Ne.symm nIl) nIc e
  have at2:At (j+1) h2:=it.frame _ _ _ at1 kI
  have st01:zC frS o oj s.heap h1:=fun b ob q e=>⟨zb (fun ob e'=>k1 b ob (ne e) e') (stj b ob q e).1,(stj b ob q e).2⟩
  have st02:=st01.trans st2
  have st12:=zC.trans (P:=frS) st1 st2
  have src2:Src h2:=it.src hj h2 srcj fun b ob ad e=>(st2 b ob (by rw [adj b ad];exact (had b ad).2) (zb (fun ob e=>k1 b ob (had b ad).1 e) e)).1
  refine ob11 (it.alive _ _ at2) fun oi eI=>?_
  refine HB' (f:=f.x (notedBy S.M f.A f.env (cameBackBy S.M f.A f.env f.X.E))) (s:=up s h2 tk2) c2.x ?_
  have Pj:Ps S f Q o s ((S.X W b (ρj.set y (some ts[j]))).bind fun p ρ=>match p with | .next=>jF (fun x ρ=>S.X W b (ρ.set y (some x))) (ts.drop (j+1)) ρ | .ret t=>.ok (.ret t) ρ):=Pj
  clear x px body inj hs HB' i0 rd sy cO_fr lj st0 hv at1 c1' ne0 st1 nIl nIc no c2 st2 kp kI st01;revert Pj;cases S.X W b (ρj.set y (some ts[j])) with
  |stuck=>intro Pj;exact Pj.elim
  |exc d ρ' =>
   intro Pj
   exact PX.back (PX.step (show PX S.B f.X (IO S f ρ') frS o s d from Pj) st02) ⟨c.cx.frames,c.cx.here⟩
  |ok pr ρ1 =>
   intro Pj
   cases pr with
   |next =>
    intro o3 h3 tk3 c3 st3
    have aI:=st3 I _ (.inl oIj) (zm eI)
    exact ⟨ts.length-(j+1),by exact Wd lt,j+1,o3,ρ1,h3,tk3,rfl,lt,rfl,c3.ofx,st02.trans st3,st12.trans st3,aI.2.trans oIj,it.frame _ _ _ at2 fun ob e=>(st3 I ob (.inl oIj) e).1,it.src h2 h3 src2 fun b ob ad e=>(st3 b ob (by rw [adj b ad];exact (had b ad).2) e).1,fun b ad=>by
     refine ob11 (it.live h2 b src2 ad) fun ob e=>?_
     exact (st3 b _ (by rw [adj b ad];exact (had b ad).2) (zm e)).2.trans (adj b ad),Pj⟩
   |ret t=>exact fun o3 v h3 tk3 r i st3 rv=>Pj o3 v h3 tk3 r i (st02.trans st3) rv
 ·rw [drop_length] at Pj
  refine it.done f.A _ _ _ c.cx.ok.handled atj srcj fun h1 tk1 k1=>?_
  have ne:∀ {b ob},look s.heap b=some ob->b≠I:=fun {b ob} e z=>by refine ob12 (zp e) fun _ w _=>?_;rw [z,sI] at w;clear x px body inj hs c HB' i0 had rd sy sI cO_fr lj st0 srcj adj z;exact no1 w
  exact wpAny_execs_nil (Pj oj h1 tk1 (cj.iter (it.kind _ _ atj) oIj bI k1) fun b ob q e=>⟨zb (fun ob e'=>k1 b ob (ne e) e') (stj b ob q e).1,(stj b ob q e).2⟩)
theorem G4 {n:Nat} {y c d:Sh} (e:Wx y c d=true):(y=.i\/y=.b)/\(∀ {o:Own} {p:List Nat} {b:Addr},cS o c p b->frS (o b))/\∀ {o:Own} {p:List Nat} {a:Addr},cS o d p a->cO o n y p a:=by
 have two:∀ {c:Sh},(c.isI||c.isB)=true->∀ {o:Own} {p:List Nat} {b:Addr},cS o c p b->frS (o b):=fun {c} e {o p b} q=>by
  clear n;cases c with
  |i=>exact .inl q
  |b=>exact q
  | _=>cases e
 have one:∀ {c:Sh},c.isI=true->∀ {o:Own} {p:List Nat} {b:Addr},cS o c p b->o b=none:=fun {c} e {o p b} q=>by
  rw [Jp e] at q;exact q
 cases y with
 |i =>
  refine zc (and_eq_true_iff.mp e) fun e1 e2=>?_
  exact ⟨.inl rfl,fun q=>.inl (one e1 q),fun q=>one e2 q⟩
 |b =>
  refine zc (and_eq_true_iff.mp e) fun e1 e2=>?_
  exact ⟨.inr rfl,two e1,two e2⟩
 | _=>clear two one;cases e
theorem HF {y:Nat} {it:za} {b:zk} {x:Str} {px pos:Pos} {iter:Expr} {body:List Stmt} (inj:kS S.sm) (hs:stK S.sc S.sm x y=true) (HI:SI S it iter) (HB':SL S W b body):S1 S W (.fors (.loc y) it b) (.For (.Name x px) iter body [] pos):=fun f ρ o s Q c p=>by
 refine zc (Ps.cond (show Ps S f Q o s (cond (Wx (S.g.sh.getD y .i) (Uk S.g.sh it) (S.c it)) ((((zK S.G S.g.sh S.C it).I ρ).on ρ).bind fun ts ρ=>jF (fun x ρ=>S.X W b (ρ.set y (some x))) ts ρ) .stuck) from p)) fun ok p=>?_
 have cl:=G4 (n:=y) ok
 refine wpAny_For (HI.2 c.cx ?_) (HI.1 f.env)
 clear pos iter HI;revert p;cases (zK S.G S.g.sh S.C it).I ρ with
 |exc d=>intro p;exact Pv.on (x:=(.exc d:Ex (List Tr))) (V:=fun _ _ _ (_:Value)=>True) (Q:=fun _ _=>True) (P:=frS) c p
 |stuck=>intro p;exact p
 |ok ts =>
  intro p
  intro It Ad Src I At h0 h₁ tk₁ r₁ ga gb i0 itr at₁ src₁ had rd hl
  exact Zr inj hs c HB' itr ga gb i0 r₁ at₁ src₁ (fun b ad=>⟨(had b ad).1,cl.2.1 (had b ad).2⟩) (fun j t v e1 e2=>(rd j t v e1 e2).to fun p a q=>cl.2.2 q) cl.1 p
end
theorem xu:∀ {c d:Nat},c<9->d<9->zO c=zO d->c=d:=by
 have:∀ c:Fin 9,∀ d:Fin 9,zO c.1=zO d.1->c=d:=by decide +kernel
 intro c d hc hd e
 exact congrArg Fin.val (this ⟨c,hc⟩ ⟨d,hd⟩ e)
theorem yz.named {B:Heap} {c:Nat} (h:yz B c):c<9/\∃ o cd,B.get? (yV B c)=some o/\o.data=.cls cd/\cd.name=zO c:=by
 refine yP h fun h1 _ wz0=>?_;clear h;refine ob12 wz0 fun r ho _=>?_;clear wz0
 exact ⟨h1,_,_,ho,rfl,rfl⟩
theorem yz.inj {B:Heap} {c d:Nat} (h:yz B c) (h':yz B d) (e:yV B c=yV B d):c=d:=by
 refine zc h.named fun h1 wz1=>?_;refine ob23 wz1 fun o cd h2 h3 h4=>?_;clear wz1
 refine zc h'.named fun h1' wz2=>?_;refine ob23 wz2 fun o' cd' h2' h3' h4'=>?_;clear wz2
 rw [e,h2'] at h2;clear h h' e h2';cases h2
 rw [h3'] at h3;clear o h3';cases h3
 exact xu h1 h1' (h4.symm.trans h4')
theorem yz.inj0 {B:Heap} {c:Nat} (h:yz B c) (e:yV B c=yV B 0):c=0:=by
 refine zc h.named fun h1 wz3=>?_;refine ob23 wz3 fun o cd h2 h3 h4=>?_;clear wz3
 refine yP h fun _ wz4x1 _=>?_;clear h;refine ob53 wz4x1 fun c0 dd sl cd' m0 h2' h4' _=>?_;clear wz4x1
 rw [e,h2'] at h2;clear e h2';obtain rfl:=sj h2
 cases h3
 exact xu h1 (by decide) (h4.symm.trans h4')
theorem UL {B:Heap} {c k:Nat} (hc:yz B c) (hk:yz B k):(Value.ref (yV B c)::tlK B c).contains (.ref (yV B k))=decide (k=c\/k=0):=by
 rw [Bool.eq_iff_iff,contains_iff_mem,decide_eq_true_eq,mem_cons,tlK,mem_append]
 constructor
 ·rintro (h | h | h)
  ·exact .inl (hk.inj hc (by simpa using h))
  ·by_cases z:c=0
   ·rw [if_pos z] at h;clear hc;cases h
   ·rw [if_neg z] at h;exact .inr (hk.inj0 (by simpa using h))
  ·simp [JB] at h
 ·rintro (rfl | rfl)
  ·exact .inl rfl
  ·by_cases z:c=0
   ·clear hc hk;subst z;exact .inl rfl
   ·rw [if_neg z];exact .inr (.inl (.head _))
theorem VN {B:Heap} {c:Nat} {T:String} (h:JB.contains (.type T)=true):(tlK B c).contains (.type T)=true:=by
 rw [contains_iff_mem] at h ⊢
 exact mem_append.mpr (.inr h)
section
variable {M:Model} {A:Around} {E:Value->Shared->Prop} {h B:Heap} {g:Array GenState} {d:Drawn} {t:Nat} {os:OsState} {c k:Nat} {e:Addr} {oe:Obj}
theorem Kt {Q:Bool->Shared->Prop} (kk:∀ b o,B.get? b=some o->h.get? b=some o) (hc:yz B c) (hk:yz B k) (he:h.get? e=some oe) (hcls:oe.cls=.ref (yV B c))
  (hq:Q (decide (k=c\/k=0)) ⟨h,g,d,t,os⟩):wpAny M A (excMatches (.ref e) (.ref (yV B k))) Q E ⟨h,g,d,t,os⟩:=by
 have hm:=UL hc hk
 refine ob12 hc.2.2 fun r hC _=>?_
 refine yP hk fun _ _ wz6=>?_;clear hk;refine ob12 wz6 fun r' hK _=>?_;clear wz6
 have hC:=kk _ _ hC
 have hK:=kk _ _ hK
 have hB:(Value.ref (yV B k)::tlK B k).contains (.type "BaseException")=true:=by rw [List.contains_cons,VN (by decide),Bool.or_true]
 have f:=tc_notTuple
 unfold excMatches
 generalize decide (k=c\/k=0)=b at hm hq
 repeat (first | (with_reducible refine wpAny_loadPart_at he ?_;rw [hcls]) | with_reducible refine wpAny_loadPart_at hK ?_ | (with_reducible refine wpAny_isSubtype_exc hK ?_;rw [hB]) | (with_reducible refine wpAny_isSubtype_exc hC ?_;rw [hm]) | wp_step)
 clear kk hc he hcls hm hC hK hB f;cases b <;> (wp_walk;exact hq)
end
section
variable {S:Su} {f:Fr} {ρ:VS} {o o':Own} {s:Shared} {h h' h0:Heap} {g:yd} {F:Nat->Option zr} {mg mb:Str->Option Value} {Q:Flow->Shared->Prop} {W:Nat}
theorem Uu {c0:za} {b:zk} {x:Expr} {body:List Stmt} {pos:Pos} (HC:STX S c0 x) (HB':SL S W b body):S1 S W (.whiles c0 b) (.While x body [] pos):=fun f ρ o s Q c p=>by
 have p:Ps S f Q o s (jU (vT S.G S.g.sh S.C S.np c0) (S.X W b) W ρ):=p
 refine wpAny_While ?_
 have hh:Th f.A f.X.l f.env:=⟨c.cx.frames,c.cx.here⟩
 refine codeAny_whileLoop (fun k s'=>∃ oj ρj hj tkj,s'=up s hj tkj/\CxS S f ρj oj hj/\zC frS o oj s.heap hj/\Ps S f Q o s (jU (vT S.G S.g.sh S.C S.np c0) (S.X W b) k ρj)) (fun k s' hI=>?_) W ⟨o,ρ,s.heap,s.toks,rfl,c,zC.refl,p⟩
 refine ob44 hI fun oj ρj hj tkj ez0x4 cj stj pj=>?_;clear hI;clear pos c;subst ez0x4
 cases k with
 |zero=>exact pj.elim
 |succ k =>
  have pj:Ps S f Q o s ((vT S.G S.g.sh S.C S.np c0 ρj).bind fun b' ρ=>if b' then (S.X W b ρ).bind fun p ρ=>(match p with | .next=>jU (vT S.G S.g.sh S.C S.np c0) (S.X W b) k ρ | .ret t=>.ok (.ret t) ρ) else .ok .next ρ):=pj
  refine HC (f:=f.x (notedBy S.M f.A f.env (cameBackBy S.M f.A f.env f.X.E))) (s:=up s hj tkj) cj.x ?_
  clear x HC cj;revert pj;cases vT S.G S.g.sh S.C S.np c0 ρj with
  |exc d ρ'=>intro pj;exact PX.toE (PX.back (PX.step (show PX S.B f.X (IO S f ρ') frS o s d from pj) stj) hh)
  |stuck=>intro pj;exact pj.elim
  |ok t ρ1 =>
   intro pj
   intro o1 t' h1 tk1 c1 st1 ht
   rw [<- show t=t' from ht]
   have st01:=stj.trans st1.toS
   clear oj stj t' st1 ht;cases t with
   |false =>
    rw [if_neg (by simp)]
    exact wpAny_execs_nil (pj o1 h1 tk1 c1.ofx st01)
   |true =>
    rw [if_pos rfl]
    have pj:Ps S f Q o s ((S.X W b ρ1).bind fun p ρ=>(match p with | .next=>jU (vT S.G S.g.sh S.C S.np c0) (S.X W b) k ρ | .ret t=>.ok (.ret t) ρ)):=pj
    refine HB' (s:=up s h1 tk1) c1 ?_
    clear body HB' p hj tkj c1;revert pj;cases S.X W b ρ1 with
    |exc d ρ'=>intro pj;exact PX.back (PX.step (show PX S.B f.X (IO S f ρ') frS o s d from pj) st01) hh
    |stuck=>intro pj;exact pj.elim
    |ok pr ρ2 =>
     intro pj
     clear ρ p hh;cases pr with
     |next=>exact fun o2 h2 tk2 c2 st2=>⟨k,lt_succ_self _,o2,ρ2,h2,tk2,rfl,c2.ofx,st01.trans st2,pj⟩
     |ret t=>exact fun o3 v h3 tk3 r i st3 rv=>pj o3 v h3 tk3 r i (st01.trans st3) rv
theorem Uv {c0:Nat} {x:Str} {t:Str} {k:Nat} {np p1 cpos pos:Pos} (G:GOk g F S.B mg mb) (h:yj g S.sc x (.cls c0)=true):S1 S W (.raise c0) (.Raise (some (.Call (.Name x np) [.Constant (.str t) k p1] [] cpos)) none pos):=fun f ρ o s Q c p=>by
 have p:PX S.B f.X (IO S f ρ) frS o s c0:=p
 refine zc (G.cls x c0 (zE h).2.2) fun hm hc=>?_
 refine ob14 hc.2.2 fun r hC hN hi hT=>?_
 refine wpAny_Raise_call_subT (nm:=zO c0) (q:=r.q) (N:=r.N) (bs:=r.bs) (hdct:=r.hdct) (sn:=r.sn) (sub:=r.sub) (ab:=r.ab) (col:=r.col) (dd:=r.dd) (k0:=r.k0) (k1:=r.k1) (k2:=r.k2) (k3:=r.k3) (k5:=r.k5) PySem.F.excBase_ValueError (hbase:=VN (c:=c0) (B:=S.B) (by decide)) c.cx.ok.handled (yM (jc rfl)) (hi _ (.head _)) (jM G h c.cx hm ⟨rfl,qB (jc rfl) (qF rfl (wpAny_Constant_str ?_))⟩)
 have kb:∀ b o,S.B.get? b=some o->s.heap.get? b=some o:=c.cx.rel.base
 refine ⟨rfl,by show 1<=sizeLine;decide,kb _ _ hC,jv hN fun o e=>kb _ _ e,hT.keeps kb,fun h' e hx=>?_⟩
 let P:Addr->Prop:=fun b=>∃ fr,fr∈f.X.l/\fr.frame=some b
 have hP:∀ b,P b->fl (o b)/\S.B.get? b=none/\∃ m,s.heap.Ns b m:=fun b ⟨fr,hf,hb⟩=>by
  refine zc (c.cx.fok fr hf) fun _ wz2=>?_;refine ob14 wz2 fun L h2 h3 h4 h5=>?_;clear wz2
  rw [hb] at h2;clear x k np p1 cpos pos h hm r hC hN hi hT hb;obtain rfl:=sj h2
  exact ⟨h3,h4,h5⟩
 have hx':Heap.MadeExcOf s.heap h' e (.ref (yV S.B c0)) _:=hx
 refine ob13 hx'.there fun t' te tn tt=>?_
 have nP:∀ b,¬ fl (o b)->¬ P b:=fun b n z=>n (hP b z).1
 have lk:∀ b ob,look s.heap b=some ob->¬ P b->look (cut P s.heap) b=some ob:=fun b ob e z=>zb (fun ob e=>(qT z).trans e) e
 refine ob12 c.vl fun _ _ vl=>?_
 refine p o h' _ e (cut P s.heap) ⟨fun b ob e=>(qT fun z=>by rw [(hP b z).2.1] at e;clear x k np p1 cpos pos h p hm r hC hN hi hT hx tn tt;exact no1 e).trans (kb b ob e),fun a n=>⟨(c.cx.rel.own a n).1,fun nf=>(c.cx.rel.own a n).2.imp fun ob e=>(qT (nP a nf)).trans e⟩⟩ hc (c.io.base vl.small fun b ob e n=>lk b ob e (nP b n)) ⟨zA.step fun b _=>zb (hx'.keeps b),fun b ob q e nd=>lk b ob e fun z=>?_⟩ ⟨fun b ob e=>hx'.keeps b ob (G9 b ob e),wx e hx'.new,c.cx.fok.fun (fun fr L hf hL=>ww ⟨fr,hf,hL⟩) hx'.keeps,.inl ⟨_,_,_,te,rfl,rfl,rfl,rfl,rfl⟩⟩
 clear x t k np p1 cpos pos h c p hm hc r hC hN hi hT kb h' hx hx' t' te tn tt nP lk vl q;rcases nd with nd | nd
 ·refine yP (hP b z) fun _ _ wz5=>?_;refine ob43 wz5 fun m o2 es ep e2 d2 _=>?_;clear wz5
  refine ob12 (zp e) fun o3 e3 q3=>?_
  rw [e2] at e3;clear c0 ρ p e e2;obtain rfl:=sj e3
  exact nd es ep (by rw [<- q3,yL];exact d2)
 ·exact nd (hP b z).1
end
section
variable {S:Su} {f:Fr} {ρ ρ':VS} {o o':Own} {s:Shared} {h h' h0 base:Heap} {g:yd} {F:Nat->Option zr} {mg mb:Str->Option Value} {Q:Flow->Shared->Prop} {W c0:Nat} {e:Addr} {tk:Nat}
structure AtH (S:Su) (f:Fr) (ρ':VS) (o o':Own) (s:Shared) (c0:Nat) (e:Addr) (base h':Heap):Prop where
 r:HBx S.B o' base
 xc:yz S.B c0
 io:IO S f ρ' o' base
 st:qf frS o o' s.heap base h'
 b1:base.StaysIn h'
 b2:base.get? e=none
 b3:h'.FunFrames base f.X.l
 b4:Trc h' base e (.ref (yV S.B c0))
theorem AtH.land {A:Around} {E:Value->Shared->Prop} {Q:Unit->Shared->Prop} (a:AtH S f ρ' o o' s c0 e base h') (k:∀ h2,AtH S f ρ' o o' s c0 e base h2->Q () (up s h2 tk)):wpAny S.M A (setFlight (.ref e) none) Q E (up s h' tk) :=
 xL (s:=up s h' tk) a.b1 a.b3 a.b4 fun h2 n1 n2 n3 n4=>k h2 ⟨a.r,a.xc,a.io,a.st.hop a.b1 n1 n4,n1,a.b2,n2,n3⟩
theorem AtH.cls (a:AtH S f ρ' o o' s c0 e base h'):∃ oe vs,h'.get? e=some oe/\oe.cls=.ref (yV S.B c0)/\oe.data=.fields vs:=by
 refine ob74 a.b4.1 fun a0 fl oe vs _ _ _ h1 h2 h3 _=>?_
 exact ⟨oe,vs,h1,h2.1,h3⟩
theorem AtH.old (a:AtH S f ρ' o o' s c0 e base h'):∀ b ob,S.B.get? b=some ob->h'.get? b=some ob:=fun b ob q=>a.b1 b ob (a.r.base b ob q)
noncomputable def oL (h:Heap) (o:Own):Own:=fun a=>match h.get? a with
 |some _=>o a
 |none=>none
theorem YZ {a:Addr} {ob:Obj} (e:h.get? a=some ob):oL h o a=o a:=by unfold oL;rw [e]
theorem Wg {a:Addr} {xp:Nat × List Nat} (e:oL h o a=some xp):o a=some xp/\∃ ob,h.get? a=some ob:=by
 unfold oL at e
 revert e;cases h.get? a with
 |none=>intro e;exact no1 e
 |some ob=>intro e;exact ⟨e,ob,rfl⟩
theorem AtH.ends (a:AtH S f ρ' o o' s c0 e base h'):HB S.B (oL h' o') h'/\IO S f ρ' (oL h' o') h'/\zC frS o (oL h' o') s.heap h':=by
 have inb:∀ b ob,look base b=some ob->look h' b=some ob:=fun b ob=>zb fun ob=>a.b1 b ob
 have lb:∀ {b:Addr} {xp:Nat × List Nat},o' b=some xp->¬ fl (some xp)->oL h' o' b=some xp:=fun {b xp} e n=>by
  refine ob11 ((a.r.own b (by rw [e];exact fun z=>nomatch z)).2 (by rw [e];exact n)) fun ob q=>?_
  rw [YZ (a.b1 b ob q)];exact e
 refine ⟨⟨a.old,fun b n=>?_⟩,⟨fun b x p e z=>a.io.1 b x p (Wg e).1 z,fun b j p e l lb'=>lb (a.io.2.1 b j p e l lb') (wi lb'),fun j s e q=>?_⟩,fun b ob q e=>?_⟩
 ·clear lb;cases q:oL h' o' b with
  |none=>exact absurd q n
  |some xp =>
   refine zc (Wg q) fun q1 q2=>?_
   exact ⟨(a.r.own b (by rw [q1];exact fun z=>nomatch z)).1,q2⟩
 ·refine ob23 (a.io.2.2 j s e q) fun t v e1 e2 r=>?_
  refine ⟨t,v,e1,e2,r.mono fun p b ob z y=>⟨?_,inb b ob y⟩⟩
  refine ob12 (zp (inb b ob y)) fun ob' y' _=>?_
  show oL h' o' b=_
  rw [YZ y'];exact z
 ·refine zc (a.st.step b ob q e) fun z1 z2=>?_
  refine ob12 (zp z1) fun ob' y' _=>?_
  exact ⟨z1,(YZ y').trans z2⟩
theorem wT {v:Val} {c:Const} {k:Nat} {pos:Pos} {env:Env} {A:Around} {E:Value->Shared->Prop} {Q:Value->Shared->Prop} (h:qU v c=true) (hQ:∀ u tk,ScR v u->Q u { s with toks:=tk }):wpAny S.M A (eval (.Constant c k pos) env) Q E s:=by
 cases v with
 |none =>
  cases c with
  |none=>exact wpAny_Constant_none (hQ _ s.toks rfl)
  | _=>exact no3 h
 |bool a =>
  cases c with
  |bool b=>exact wpAny_Constant_bool (hQ _ s.toks (congrArg Value.bool (beq_iff_eq.mp h).symm))
  | _=>exact no3 h
 |int a =>
  cases c with
  |int b=>exact wpAny_Constant_int (hQ _ _ ⟨_,congrArg (Value.int · _) (beq_iff_eq.mp h).symm⟩)
  | _=>exact no3 h
 |str a =>
  cases c with
  |str b =>
   refine zc (and_eq_true_iff.mp h) fun h1 h2=>?_
   exact wpAny_Constant_str (hQ _ _ ⟨of_decide_eq_true h2,_,congrArg (Value.str · _) (of_decide_eq_true h1)⟩)
  | _=>exact no3 h
theorem JU {v:Val} {k:Const} {kn:Nat} {p1 p2 pos:Pos} {R:Result->Shared->Prop} (a:AtH S f ρ' o o' s c0 e base h') (h:qU v k=true) (p:Ps S f Q o s (.ok (.ret (.sc v)) ρ')) (hR:∀ f s',Q f s'->R (.ok f) s') (A':Around) :
  codeAny S.M A' (.handlers (.ref e) [.ExceptHandler none none [.Return (some (.Constant k kn p1)) p2] pos] f.env) R (up s h' tk) :=
 codeAny_handlers_suite (a.land fun h2 a2=>wpAny_execs_cons (wpAny_Return_some (wT (S:=S) (s:=up s h2 tk) h fun u tk' hu=>hR _ _ (let ⟨e1,e2,e3⟩:=a2.ends;p _ u h2 tk' e1 e2 e3 (.sc hu)))))
theorem W8 {x:Str} {i:GI} {pos:Pos} {v:Value} {A:Around} {E:Value->Shared->Prop} {Q:Value->Shared->Prop} {sc:Scope} {env:Env} (hg:s.heap.Ns env.globals mg) (hk:env.scope=sc) (hf:env.scope.kind=.function) (h:yj g sc x i=true) (hv:mg x=some v) (hQ:Q v s):wpAny S.M A (eval (.Name x pos) env) Q E s:=by
 refine yP (zE h) fun h1 h2 h3=>?_
 exact Calls.Name_function_global hf (by unfold Env.kindOf;rw [hk];exact h1) (Calls.loadGlobal_global (mg:=mg) hg hv hQ) (wb h2)
@[elab_as_elim] theorem Tv {v:Val} {body:List Stmt} {b:Bool} {P:List Stmt->Prop} (h:one (YH fun e=>b&&jX (fun c=>qU v c) e) body=true) (cc:∀ k' kn p1 p2,qU v k'=true->P [.Return (some (.Constant k' kn p1)) p2]):P body:=by
 refine jo h fun st h1=>?_
 refine kA h1 fun ev p2 h2=>?_
 cases ev with
 |none=>exact no3 h2
 |some ev=>exact ad2 h2 fun _ h3=>jJ h3 fun k' kn p1 h4=>cc k' kn p1 p2 h4
theorem Zm (G:GOk g F S.B mg mb) (cx:Cx S f ρ o s.heap) {v:Val} (a:AtH S f ρ' o o' s c0 e base h') (p:Ps S f Q o s (.ok (.ret (.sc v)) ρ')) {hs:List (Nat × Bool × Val)} :
  ∀ (hl:List ExceptHandler),U8 g S.sc S.sm hs hl=true->qw c0 hs=some v->wpAny S.M f.A (handleBy (.ref e) f.env hl) Q f.X.E (up s h' tk):=by
 induction hs with
 |nil=>exact fun _ _ q=>nomatch q
 |cons k r ih =>
  intro hl h q
  cases hl with
  |nil=>exact no3 h
  |cons hd r' =>
   obtain ⟨ty,nm,body,pos⟩:=hd
   refine zc (and_eq_true_iff.mp h) fun h1 h2=>?_
   clear h;cases ty with
   |none=>exact no3 h1
   |some t =>
    refine zc (and_eq_true_iff.mp h1) fun h1 h1'=>?_
    refine zD h1 fun x px h3=>?_;clear h1
    refine zc (G.cls x k.1 (zE h3).2.2) fun hm hk=>?_
    refine ob23 a.cls fun oe vs e1 e2 _=>?_
    have ng:h'.Ns f.env.globals mg:=by rw [cx.frm.glob];exact jv G.ng fun ob e=>a.old _ ob e
    refine wpAny_handleBy_cons (codeAny_handlers_test (W8 (s:=up s h' tk) ng cx.scope cx.frm.kind h3 hm (Kt a.old a.xc hk e1 e2 ?_))) (by intro z;clear cx pos h1 h3 hm hk e1 e2 ng;cases z)
    rw [qw] at q
    by_cases hit:k.1=c0\/k.1=0
    ·rw [if_pos hit] at q
     clear cx h1 h3 hm hk e1 e2 ng;obtain rfl:=sj q
     rw [decide_eq_true hit]
     clear x px;cases nm with
     |some y =>
      refine jo h1' fun st h4=>?_
      refine kA h4 fun ev p2 h5=>?_
      cases ev with
      |none=>exact no3 h5
      |some ev=>exact no3 h5
     |none=>exact Tv h1' fun k' kn p1 p2 h5=>JU a h5 p (fun f s' z=>z) _
    ·rw [if_neg hit] at q
     rw [decide_eq_false hit]
     exact ih r' h2 q
theorem Hz {b:zk} {hs:List (Nat × Bool × Val)} {y:List Stmt} {hl:List ExceptHandler} {pos:Pos} (G:GOk g F S.B mg mb) (hb:SL S W b y) (hne:(!hs.isEmpty)=true) (hh:U8 g S.sc S.sm hs hl=true):S1 S W (.tryx b hs) (.Try y hl [] [] pos):=fun f ρ o s Q c p=>by
 have p:Ps S f Q o s (Z9 hs (S.X W b ρ)):=p
 cases hl with
 |nil =>
  cases hs with
  |nil=>exact no3 hne
  |cons=>exact no3 hh
 |cons h₀ hl =>
  refine wpAny_Try_except (hb (f:=f.x fun e s₁=>wpAny S.M f.A (noteFrame e f.env) (fun _ s₂=>wpAny S.M f.A (setFlight e none) (fun _ s₃=>wpAny S.M f.A (handleBy e f.env (h₀::hl)) Q f.X.E s₃) f.X.E s₂) f.X.E s₁) c.x ?_)
  clear y pos hb hne;revert p;cases S.X W b ρ with
  |stuck=>intro p;exact p
  |ok pr ρ1 =>
   intro p
   cases pr with
   |next=>exact fun o1 h1 tk c1 st=>wpAny_execs_nil (p o1 h1 tk c1.ofx st)
   |ret t=>exact p
  |exc d ρ1 =>
   intro p
   have p:Ps S f Q o s (match qw d hs with | some v=>.ok (.ret (.sc v)) ρ1 | none=>.stuck):=p
   cases q2:qw d hs with
   |none=>rw [q2] at p;exact p.elim
   |some v =>
    rw [q2] at p
    refine ob22 c.cx.here fun e0 outer hX he=>?_
    have hfr:=c.cx.frames
    intro o1 h' tk e base r xc i st x
    have x:KY base f.X.l (yV S.B d) e h':=x
    have x':=x
    rw [hX] at x' hfr
    refine ux (s:=up s h' tk) hfr he x' fun h2 n1 n2 n3 n4=>?_
    have a2:AtH S f ρ1 o o1 s d e base h2:=⟨r,xc,i,st.hop x.1 n1 n4,n1,x.2.1,hX▸n2,n3⟩
    exact a2.land fun h3 a3=>Zm G c.cx a3 p (h₀::hl) hh q2
end
noncomputable def oE (np:Nat) (o:Own):Own:=fun a=>match o a with
 |none=>none
 |some xp=>cond (Nat.ble np xp.1&&Nat.blt xp.1 bB) none (some xp)
section
variable {S:Su} {f:Fr} {ρ ρ':VS} {o o':Own} {s:Shared} {h h' h0:Heap} {g:yd} {F:Nat->Option zr} {mg mb:Str->Option Value} {Q:Flow->Shared->Prop} {W np:Nat} {u:List (Option Value)} {a:Addr}
theorem va (e:o a=none):oE np o a=none:=by unfold oE;rw [e]
theorem xF {x:Nat} {p:List Nat} (z:x<np\/bB<=x) (e:o a=some (x,p)):oE np o a=some (x,p):=by
 unfold oE;rw [e]
 show cond (Nat.ble np x&&Nat.blt x bB) none _=_
 clear e;rcases z with z | z
 ·rw [eq_false_iff.mpr fun y=>absurd (le_of_ble_eq_true y) (Nat.not_le_of_lt z)];rfl
 ·rw [show Nat.blt x bB=false from eq_false_iff.mpr fun y=>absurd (le_of_ble_eq_true y) (Nat.not_le_of_lt (lt_succ_of_le z)),Bool.and_false];rfl
theorem UG {x:Nat} {p:List Nat} (z1:np<=x) (z2:x<bB) (e:o a=some (x,p)):oE np o a=none:=by
 unfold oE;rw [e]
 show cond (Nat.ble np x&&Nat.blt x bB) none _=_
 rw [ble_eq_true_of_le z1,show Nat.blt x bB=true from ble_eq_true_of_le z2];rfl
theorem UF {xp:Nat × List Nat} (e:oE np o a=some xp):o a=some xp:=by
 unfold oE at e
 revert e;cases o a with
 |none=>intro e;exact no1 e
 |some yp =>
  intro e
  dsimp only at e
  revert e;cases Nat.ble np yp.1&&Nat.blt yp.1 bB with
  |true=>intro e;exact no1 e
  |false=>intro e;exact e
theorem CxS.ends (c:CxS S f ρ o h):HB S.B (oE S.g.ps.length o) h/\IO S f ρ (oE S.g.ps.length o) h/\zC frS o (oE S.g.ps.length o) h h:=by
 refine ⟨⟨c.cx.rel.base,fun a n=>c.cx.rel.own a fun z=>n (va z)⟩,⟨fun a x p e z=>c.cx.flo a x p (UF e) z,fun a j p e l lb=>xF (.inl l) (c.kl a j p e l lb),fun j s e q=>?_⟩,fun b ob q e=>⟨e,?_⟩⟩
 ·refine ob23 (c.io.2.2 j s e q) fun t v e1 e2 r=>?_
  refine ⟨t,v,e1,e2,r.to fun p a z=>?_⟩
  have z:o a=cond (s.mem p) (some (j,p)) none:=z
  show oE _ o a=cond (s.mem p) (some (j,p)) none
  clear c t v e1 e2 r;revert z;cases s.mem p with
  |true=>intro z;exact xF (.inl (List.getElem?_eq_some_iff.mp e).1) z
  |false=>intro z;exact va z
 ·clear c e;rcases q with q | q | q
  ·rw [q];exact va q
  ·rw [q];exact xF (.inr (by decide)) q
  ·rw [q];exact xF (.inr (by decide)) q
theorem Zw {e:za} {t:Tr} {w:Value} (hnp:S.np=S.g.ps.length) (r:VL S.B S.g f.vs o ρ u h) (ar:JH S u o ρ h e t w) (ok:(zM (S.c e) t||wH S.g.sh S.np e)=true):Rd S.B h (imm (oE S.g.ps.length o)) t w:=by
 rcases or_eq_true_iff.mp ok with ok | ok
 ·exact (ar.rd.st ok).to fun p a q=>va q
 ·unfold wH at ok
  cases z:zQ e with
  |none=>rw [z] at ok;exact no3 ok
  |some x =>
   rw [z] at ok
   refine zc (and_eq_true_iff.mp ok) fun z1 z2=>?_
   refine zc (ar.loc x (yb z)) fun y1 y2=>?_
   refine ob12 (r.get x t y1) fun v y3 y4=>?_
   rw [y2] at y3;clear ar ok y2;cases y3
   refine y4.to fun p a q=>?_
   rw [qx z2] at q
   clear w ok z2 y4;rcases yS (show o a=cond _ _ none from q) with q | q
   ·exact va q
   ·exact UG (hnp▸le_of_ble_eq_true z1) (r.lt y1) q
theorem Kw (hnp:S.np=S.g.ps.length) (r:VL S.B S.g f.vs o ρ u h):∀ {es:List za} {ts:List Tr} {ws:List Value},ts.length=es.length->ws.length=es.length->(∀ (j:Nat) e t w,es[j]?=some e->ts[j]?=some t->ws[j]?=some w->JH S u o ρ h e t w)->xo S.g.sh S.np es ts=true->A2 (Rd S.B h (imm (oE S.g.ps.length o))) ts ws
 | [],ts,ws,l1,l2,k,e=>by cases length_eq_zero_iff.mp l1;exact length_eq_zero_iff.mp l2
 |e::es,t::ts,w::ws,l1,l2,k,q=>by
  refine zc (and_eq_true_iff.mp (show ((zM (S.c e) t||wH S.g.sh S.np e)&&xo S.g.sh S.np es ts)=true from q)) fun q1 q2=>?_
  exact ⟨w,ws,rfl,Zw hnp r (k 0 e t w rfl rfl rfl) q1,Kw hnp r (Nat.succ.inj l1) (Nat.succ.inj l2) (fun j=>k (j+1)) q2⟩
theorem GO {e:za} {v:Expr} (AE:∀ m,PE S g m) (hnp:S.np=S.g.ps.length) (hr:S.g.rs=.i) (hX:X2 S e v) (q:(chk g e S.sc S.sm).E v=true) (c:CxS S f ρ o s.heap) (p:Ps S f Q o s ((XU S.G S.g.sh S.C S.np e ρ).bind fun t ρ=>.ok (.ret t) ρ)) :
  wpAny S.M f.A (eval v f.env) (fun w s'=>Q (.ret w) s') f.X.E s:=by
 have last:Ps S f Q o s (((vX S.G S.g.sh S.C S.np e ρ).bind fun t ρ=>cond (zM (S.c e) t) (.ok t ρ) .stuck).bind fun t ρ=>.ok (.ret t) ρ)->wpAny S.M f.A (eval v f.env) (fun w s'=>Q (.ret w) s') f.X.E s:=fun p=>by
  refine hX.X c (Ps.bind (Q:=Q) (k:=fun t ρ=>(cond (zM (S.c e) t) (VR.ok t ρ) VR.stuck).bind fun t ρ=>.ok (.ret t) ρ) ?_ fun t ρ1 o1 w h1 tk c1 st hv q=>?_)
  ·clear hX;revert p;cases vX S.G S.g.sh S.C S.np e ρ with
   |ok t ρ1=>intro p;exact p
   |exc=>intro p;exact p
   |stuck=>intro p;exact p
  ·clear hX;cases ok:zM (S.c e) t with
   |false=>rw [ok] at q;exact q.elim
   |true =>
    rw [ok] at q
    exact q o1 w h1 tk c1.cx.rel c1.io zC.refl (by rw [hr];exact hv.st ok)
 refine ob12 c.vl fun u b r=>?_
 have fin:∀ {t:Tr} {w:Value} {h1:Heap} {tk:Nat},HB S.B o h1->zA s.heap h1->Rd S.B h1 (imm (oE S.g.ps.length o)) t w->Ps S f Q o s (.ok (.ret t) ρ)->Q (.ret w) (up s h1 tk):=fun {t w h1 tk} r1 g1 hv q=>by
  refine yP ((c.grow r1 g1).ends) fun e1 e2 e3=>?_
  exact q _ w h1 tk e1 e2 (zC.trans (zA.step g1) e3) (by rw [hr];exact hv)
 unfold XU at p
 clear hr hX;cases z:zQ e with
 |some x =>
  rw [z] at p
  have z:=yb z
  subst z
  have p1:Po S f o (fun h t w=>Rd S.B h (imm (oE S.g.ps.length o)) t w) (fun w s'=>Q (.ret w) s') s ((S.E (.loc x) ρ).bind fun t=>cond (zM (S.c (.loc x)) t||wH S.g.sh S.np (.loc x)) (.ok t) .stuck):=Ps.onS c p fun t w h1 tk r1 g1 hv q=>fin r1 g1 hv q
  exact Yp AE q c b r (p1.bind fun t w h1 tk r1 g1 ar q2=>by
   refine zc q2.cond fun ok q2=>?_
   exact Po.here' (s:=up s h1 tk) (V:=fun h t w=>Rd S.B h (imm (oE S.g.ps.length o)) t w) (Q:=fun w s'=>Q (.ret w) s') q2 r1 (Zw hnp (r.grow g1) ar ok))
 |none =>
  rw [z] at p
  dsimp only at p
  cases z2:VJ e with
  |none=>rw [z2] at p;exact last p
  |some es =>
   rw [z2] at p
   have z2:=JN z2
   clear last;subst z2
   have p1:Po S f o (fun h t w=>Rd S.B h (imm (oE S.g.ps.length o)) t w) (fun w s'=>Q (.ret w) s') s (((zK S.G S.g.sh S.C es).Es ρ).bind fun ts=>cond (xo S.g.sh S.np (qL es) ts) (if ts.length<=lim then .ok (.nd .tup ts) else .stuck) .stuck):=Ps.onS c p fun t w h1 tk r1 g1 hv q=>fin r1 g1 hv q
   refine v6 (P:=fun v=>wpAny S.M f.A (eval v f.env) (fun w s'=>Q (.ret w) s') f.X.E s) q fun l ct pos k=>?_
   refine wpAny_Tuple (K4 AE es k c b r (p1.bind fun ts ws h1 tk r1 g1 ar q2=>?_))
   refine zc q2.cond fun ok q2=>?_
   refine zc q2.ite fun ln q2=>?_
   have al:=Kw hnp (r.grow g1) ar.l1 ar.l2 ar.at' ok
   rw [<- al.len] at ln
   refine ⟨Nat.le_trans ln (by decide),?_⟩
   have kp:=zt h1 (qq ws 0)
   have gr:zA h1 (h1.push (qq ws 0)):=fun b _=>zb (kp b)
   exact Po.push (s:=up s h1 tk) (V:=fun h t w=>Rd S.B h (imm (oE S.g.ps.length o)) t w) (Q:=fun w s'=>Q (.ret w) s') q2 r1 kp (Rd.new (Q:=fun a=>oE S.g.ps.length o a=none) (va (r1.free (zH _))) ⟨ln,0,Heap.get?_push_size _ rfl⟩ (al.imp fun _ _ z=>z.grow gr))
noncomputable def oT (x:Nat) (o:Own):Own:=fun a=>match o a with
 |none=>none
 |some yp=>if yp.1=x then some (bR,0::yp.2) else some yp
theorem kZ {x:Nat} (e:o a=none):oT x o a=none:=by unfold oT;rw [e]
theorem Qo {x y:Nat} {p:List Nat} (n:y≠x) (e:o a=some (y,p)):oT x o a=some (y,p):=by unfold oT;rw [e];exact if_neg n
theorem D6 {x:Nat} {p:List Nat} (e:o a=some (x,p)):oT x o a=some (bR,0::p):=by unfold oT;rw [e];exact if_pos rfl
theorem Eu {x:Nat} (e:oT x o a=none):o a=none:=by
 unfold oT at e
 revert e;cases o a with
 |none=>intro e;rfl
 |some yp =>
  intro e
  dsimp only at e
  by_cases z:yp.1=x
  ·exact no2 (Eq.trans (Eq.symm (if_pos z)) e)
  ·exact no2 (Eq.trans (Eq.symm (if_neg z)) e)
theorem GN {x:Nat} {e2:za} {v:Expr} (AE:∀ m,PE S g m) (hr:S.g.rs=.D) (lx:S.g.ps.length<=x) (sx:S.g.sh.getD x .i=.L (.L .i)) (re:kw S.g.sh e2=true) (q:(chk g (.tup (.cons (.loc x) (.cons e2 .nil))) S.sc S.sm).E v=true) (c:CxS S f ρ o s.heap)
  (p:Ps S f Q o s (((S.E (.tup (.cons (.loc x) (.cons e2 .nil))) ρ).on ρ).bind fun t ρ=>.ok (.ret t) ρ)):wpAny S.M f.A (eval v f.env) (fun w s'=>Q (.ret w) s') f.X.E s:=by
 refine v6 (P:=fun v=>wpAny S.M f.A (eval v f.env) (fun w s'=>Q (.ret w) s') f.X.E s) q fun l ct pos k=>?_
 refine ob25 (Jz k) fun e1 e3 ez10x2 k1 k2 k3 k4=>?_;clear k2;subst ez10x2
 have hR:SR S e2 e3:=((AE e2 _ _).1 _ k3).R re
 refine ob12 c.vl fun u b r=>?_
 have ee:S.E (.tup (.cons (.loc x) (.cons e2 .nil))) ρ=(yx x ρ).bind fun a=>(S.E e2 ρ).bind fun b=>if [a,b].length<=lim then .ok (.nd .tup [a,b]) else .stuck:=by
  show (((yx x ρ).bind fun a=>(((S.E e2 ρ).bind fun b=>(Ex.ok []).bind fun l=>.ok (b::l))).bind fun l=>.ok (a::l)).bind fun ts=>if ts.length<=lim then Ex.ok (Tr.nd .tup ts) else .stuck)=_
  clear AE re k3;cases yx x ρ with
  |ok a=>cases S.E e2 ρ <;> rfl
  | _=>rfl
 rw [ee] at p
 clear AE re k3 ee;cases el:ρ[x]? with
 |none=>rw [show yx x ρ=.stuck by unfold yx;rw [el]] at p;exact p.elim
 |some y=>cases y with
  |none=>rw [show yx x ρ=.stuck by unfold yx;rw [el]] at p;exact p.elim
  |some t =>
   rw [show yx x ρ=.ok t by unfold yx;rw [el]] at p
   have p:Ps S f Q o s ((((S.E e2 ρ).bind fun b=>if [t,b].length<=lim then .ok (.nd .tup [t,b]) else .stuck).on ρ).bind fun t ρ=>.ok (.ret t) ρ):=p
   have xb:=r.lt el
   refine zD (P:=fun e1=>wpAny S.M f.A (eval (.Tuple [e1,e3] ct pos) f.env) (fun w s'=>Q (.ret w) s') f.X.E s) k1 fun nm pn kn=>?_
   refine yP (ya kn) fun h1 h2 h3=>?_
   refine ob12 (r.get x t el) fun v z1 z2=>?_
   rw [sx] at z2
   refine wpAny_Tuple (y8 rfl k4 (jB c.cx.frm h2 (b nm x v (by rw [c.cx.kind];exact h1) h3 z1) (hR c.cx ?_)))
   clear sx ct pos k1 k4 hR r nm pn kn h1 h2 h3;revert p;cases S.E e2 ρ with
   |stuck=>intro p;exact p
   |exc d=>intro p;exact Pv.on (x:=(.exc d:Ex Tr)) (V:=fun _ _ _ (_:Value)=>True) (Q:=fun _ _=>True) (P:=frS) c p
   |ok t2 =>
    intro p
    have p:Ps S f Q o s (((if [t,t2].length<=lim then .ok (.nd .tup [t,t2]) else .stuck:Ex Tr).on ρ).bind fun t ρ=>.ok (.ret t) ρ):=p
    rw [if_pos (show [t,t2].length<=lim from (by decide:(2:Nat)<=lim))] at p
    intro v2 h2' tk r2 g2 rw2
    refine ⟨(by decide:(2:Nat)<=_),?_⟩
    have lab:∃ o1,HB S.B o1 h2'/\yH o1/\(∀ b ob,look s.heap b=some ob->o1 b=o b)/\Rd S.B h2' (fun p a=>o1 a=cond ((Sh.L .i).mem p) (some (bR,1::p)) none) t2 v2:=by
     clear tk;cases t2 with
     |sc y=>exact ⟨o,r2,c.cx.flo,fun _ _ _=>rfl,.sc rw2⟩
     |nd k ts =>
      refine ob37 rw2 fun a ys n ez14x3 ez14x4 e3 e4 e5 e6 e7=>?_;clear rw2;subst ez14x3;subst ez14x4
      refine ⟨qI o a (bR,[1]),qQ r2 (c.cx.rel.freeB e3) ⟨_,e5⟩,qH c.cx.flo (by decide),fun b ob e=>yw e3 e,.nd (yQ ..) ⟨e6,n,e5⟩ e7.len fun j t v q1 q2=>(e7.at q1 q2).to fun p b q=>?_⟩
      refine zc (v9 q) fun n1 n2=>?_
      exact (ye n1).trans n2
    refine ob14 lab fun o1 b1 f1 k1' rd1=>?_;clear lab
    have kp:=zt h2' (qq [v,v2] 0)
    have gr:zA h2' (h2'.push (qq [v,v2] 0)):=fun b _=>zb (kp b)
    have gT:(h2'.push (qq [v,v2] 0)).get? h2'.objs.size=some (qq [v,v2] 0):=Heap.get?_push_size _ rfl
    have nT:=zH h2'
    have oo:∀ {b:Addr} {ob:Obj},look h2' b=some ob->qI (oT x o1) h2'.objs.size (bR,[]) b=oT x o1 b:=fun {b ob} e=>yw nT e
    have lo:∀ {b:Addr} {ob:Obj},look s.heap b=some ob->qI (oT x o1) h2'.objs.size (bR,[]) b=oT x o b:=fun {b ob} e=>by
     rw [oo (g2 b ob e)];unfold oT;rw [k1' b ob e]
    have ne:∀ {y:Nat},y<S.g.ps.length\/bB<=y->y≠x:=fun {y} z w=>by
     clear tk r2 rw2 k1';rcases z with z | z
     ·exact absurd (w▸z) (not_lt_of_le lx)
     ·exact absurd (w▸xb) (not_lt_of_le z)
    refine p (qI (oT x o1) h2'.objs.size (bR,[])) (.ref h2'.objs.size) _ _ (qQ ⟨fun b ob e=>kp b ob (b1.base b ob e),fun a n=>?_⟩ (b1.freeB nT) ⟨_,gT⟩) ⟨qH (fun a y p e z=>?_) (by decide),fun a j p e l lb=>?_,fun j sh e q=>?_⟩ (fun b ob q e=>⟨gr b ob (g2 b ob e),?_⟩) ?_
    ·refine zc (b1.own a fun z=>n (kZ z)) fun n1 wz17=>?_;obtain ⟨ob,n2⟩:=wz17
     exact ⟨n1,ob,kp a ob n2⟩
    ·have e':o1 a=some (y,p):=by
      clear lx b xb tk r2 rw2 b1 k1' kp nT;cases qo:o1 a with
      |none=>exact no1 (Eq.trans (Eq.symm (kZ qo)) e)
      |some yp =>
       obtain ⟨y',p'⟩:=yp
       by_cases w:y'=x
       ·rw [w] at qo
        rw [D6 qo] at e
        have e:=(Prod.mk.inj (Option.some.inj e)).1
        rcases z with z | z <;> exact absurd (e.trans z) (by decide)
       ·rw [Qo w qo] at e;exact e
     exact f1 a y p e' z
    ·have e1:=c.kl a j p e l lb
     refine zc (c.cx.rel.own a (by rw [e1];exact fun z=>nomatch z)) fun _ wz19=>?_;obtain ⟨ob,e4⟩:=wz19
     rw [lo (zm e4)];exact Qo (ne (.inl l)) e1
    ·refine ob23 (c.io.2.2 j sh e q) fun t' v' y1 y2 y3=>?_
     refine ⟨t',v',y1,y2,y3.mono fun p a ob z1 z2=>⟨?_,gr a ob (g2 a ob z2)⟩⟩
     have z1:o a=cond (sh.mem p) (some (j,p)) none:=z1
     show qI (oT x o1) _ _ a=cond (sh.mem p) (some (j,p)) none
     rw [lo z2]
     clear lx c b xb tk r2 rw2 b1 f1 k1' kp nT y3;revert z1;cases sh.mem p with
     |true=>intro z1;exact Qo (ne (.inl (List.getElem?_eq_some_iff.mp e).1)) z1
     |false=>intro z1;exact kZ z1
    ·rw [lo e]
     clear lx c xb z1 tk r2 rw2 e b1 f1 k1' kp nT;rcases q with q | q | q
     ·rw [q];exact kZ q
     ·rw [q];exact Qo (ne (.inr (by decide))) q
     ·rw [q];exact Qo (ne (.inr (by decide))) q
    ·rw [hr]
     refine .nd (k:=.tup) (vs:=[v,v2]) (yQ ..) ⟨show [v,v2].length<=lim from (by decide:(2:Nat)<=lim),0,gT⟩ rfl fun j t' v' g1 g3=>?_
     clear hr lx q c k u b xb z1 r2 rw2 b1 f1 k1' kp gT nT;cases j with
     |zero =>
      clear e1 e3;obtain rfl:=sj g1;obtain rfl:=sj g3
      refine z2.mono fun p a ob y1 y2=>⟨?_,gr a ob (g2 a ob y2)⟩
      have y1:o a=cond ((Sh.L (.L .i)).mem p) (some (x,p)) none:=y1
      show qI (oT x o1) _ _ a=cond (Y9 (0::p)) (some (bR,0::p)) none
      have em:Y9 (0::p)=(Sh.L (.L .i)).mem p:=by
       clear z2 tk g2;cases p with
       |nil=>rfl
       |cons _ p=>cases p <;> rfl
      rw [em,lo y2]
      clear z2 tk g2 lo;revert y1;cases (Sh.L (.L .i)).mem p with
      |true=>intro y1;exact D6 y1
      |false=>intro y1;exact kZ y1
     |succ j=>clear e1 e3 z2 g2 lo;cases j with
      |zero =>
       cases g1;cases g3
       refine rd1.mono fun p a ob y1 y2=>⟨?_,gr a ob y2⟩
       have y1:o1 a=cond ((Sh.L .i).mem p) (some (bR,1::p)) none:=y1
       show qI (oT x o1) _ _ a=cond (Y9 (1::p)) (some (bR,1::p)) none
       have em:Y9 (1::p)=(Sh.L .i).mem p:=by clear v v2 tk rd1 gr;cases p <;> rfl
       rw [em,oo y2]
       clear v v2 h2' tk ob rd1 gr oo y2;revert y1;cases (Sh.L .i).mem p with
       |true=>intro y1;exact Qo (ne (.inr (by decide))) y1
       |false=>intro y1;exact kZ y1
      |succ j=>clear p rd1 gr oo ne g3;exact no1 g1
theorem HA {e:za} {v:Expr} {pos:Pos} (G:GOk g F S.B mg mb) (C:CS S g F) (AE:∀ m,PE S g m) (hnp:S.np=S.g.ps.length) (hX:X2 S e v) (q:(chk g e S.sc S.sm).E v=true):S1 S W (.ret e) (.Return (some v) pos):=fun f ρ o s Q c p=>by
 refine wpAny_Return_some ?_
 have p:Ps S f Q o s ((wE S.G S.g.sh S.C S.np S.g.rs e ρ).bind fun t ρ=>.ok (.ret t) ρ):=p
 have own:∀ rs,S.g.rs=rs->Ps S f Q o s (((XV S.G S.g.sh S.C S.np rs e ρ).on ρ).bind fun t ρ=>.ok (.ret t) ρ)->wpAny S.M f.A (eval v f.env) (fun w s'=>Q (.ret w) s') f.X.E s:=fun rs hr p=>by
  have vn:Ps S f Q o s (((vN S.G S.g.sh S.C rs e ρ).on ρ).bind fun t ρ=>.ok (.ret t) ρ)->wpAny S.M f.A (eval v f.env) (fun w s'=>Q (.ret w) s') f.X.E s:=fun p=>by
   refine Hm G C AE (X:=bR) (by decide) q c.cx (Ps.onS (V:=Got S bR rs o s.heap) c p fun t w h1 tk r1 g1 got q=>?_)
   refine ob14 got fun o2 r2 f2 k2 rd=>?_;clear got
   exact q o2 w h1 tk r2 (c.relab (fun b ob e=>⟨g1 b ob e,k2 b ob e⟩) r2 f2).io (fun b ob _ e=>⟨g1 b ob e,k2 b ob e⟩) (by rw [hr];exact rd)
  unfold XV at p
  clear pos;cases z:QH e with
  |some x =>
   rw [z] at p
   rw [uL z] at q
   refine jJ (P:=fun v=>wpAny S.M f.A (eval v f.env) (fun w s'=>Q (.ret w) s') f.X.E s) q fun k kn p1 kc=>?_
   exact wT (S:=S) kc fun u tk hu=>p o u s.heap tk c.cx.rel c.io zC.refl (.sc hu)
  |none =>
   rw [z] at p
   dsimp only at p
   cases z2:tx2 e with
   |none=>rw [z2] at p;exact vn p
   |some xe =>
    rw [z2] at p
    dsimp only at p
    clear vn;cases ok:isD rs&&Nat.ble S.np xe.1&&Qa (S.g.sh.getD xe.1 .i)&&kw S.g.sh xe.2 with
    |false=>rw [ok] at p;exact p.elim
    |true =>
     rw [ok] at p
     refine zc (and_eq_true_iff.mp ok) fun ok o4=>?_
     refine zc (and_eq_true_iff.mp ok) fun ok o3=>?_
     refine zc (and_eq_true_iff.mp ok) fun o1 o2=>?_
     have hd:rs=.D:=by clear ok;cases rs <;> first | rfl | cases o1
     have ee:e=.tup (.cons (.loc xe.1) (.cons xe.2 .nil)):=by
      refine ob12 (bind_eq_some_iff.mp z2) fun es h1 h2=>?_
      refine ob12 (bind_eq_some_iff.mp h2) fun p1 h2 h3=>?_
      refine ob12 (map_eq_some_iff.mp h3) fun x h3 h4=>?_
      rw [JN h1,xR h2,yb h3,<- h4]
     rw [ee] at q p
     exact GN AE (hr.trans hd) (hnp▸le_of_ble_eq_true o2) (Wr o3) o4 q c p
 clear pos;cases hr:S.g.rs with
 |i =>
  rw [hr] at p
  exact GO AE hnp hr hX q c p
 |b=>rw [hr] at p;exact own _ hr p
 |u=>rw [hr] at p;exact own _ hr p
 |L t=>rw [hr] at p;exact own _ hr p
 |T=>rw [hr] at p;exact own _ hr p
 |D=>rw [hr] at p;exact own _ hr p
theorem GD {pos:Pos}:S1 S W (.ret (.const .none)) (.Return none pos):=fun f ρ o s Q c p=>by
 have p:Ps S f Q o s (.ok (.ret (.sc .none)) ρ):=by
  have p:Ps S f Q o s ((wE S.G S.g.sh S.C S.np S.g.rs (.const .none) ρ).bind fun t ρ=>.ok (.ret t) ρ):=p
  clear pos;cases hr:S.g.rs <;> (rw [hr] at p;exact p)
 exact wpAny_Return_none (p o _ s.heap s.toks c.cx.rel c.io zC.refl (.sc rfl))
end
end Mine
namespace Mine
open PySem PySem.SeqAt
section
variable {S:Su} {f:Fr} {ρ ρ':VS} {o o':Own} {s:Shared} {h h' h0:Heap} {g:yd} {F:Nat->Option zr} {mg mb:Str->Option Value} {Q:Flow->Shared->Prop} {W:Nat}
theorem Vz {env:Env} {x:Str} {v w:Value} (a:yG env h x v) (b:yG env h x w):v=w:=by
 rcases a with ⟨k,m,n,e⟩ | ⟨k,c,l,i⟩
 ·rcases b with ⟨_,m',n',e'⟩ | ⟨k',_⟩
  ·rw [WR n n',e'] at e;exact (Option.some.inj e).symm
  ·clear m n e;rcases k' with k' | k' <;> (rw [k] at k';cases k')
 ·rcases b with ⟨k',_⟩ | ⟨_,c',l',i'⟩
  ·rcases k with k | k <;> (rw [k'] at k;clear k';cases k)
  ·rw [l] at l';clear k l;cases l'
   refine ob12 i fun ob e1 d1=>?_;clear i
   refine ob12 i' fun ob' e2 d2=>?_;clear i'
   rw [e1] at e2;clear c e1;cases e2;rw [d1] at d2;clear ob d1;cases d2;rfl
structure kW (S:Su) (f:Fr) (x:Nat) (nx:Str) (o:Own) (ad a0:Addr) (vs rs:List Value) (h:Heap):Prop where
 b:yG f.env h nx (.ref ad)
 t:∃ n,h.get? ad=some (qq vs n)
 v0:vs[0]?=some (.ref a0)
 l:∃ n,h.get? a0=some (zf rs n)
 od:o ad=some (x,[])
 o0:o a0=some (x,[0])
theorem kW.keep {x:Nat} {nx:Str} {ad a0:Addr} {vs rs:List Value} (d:kW S f x nx o ad a0 vs rs h) (b:yG f.env h' nx (.ref ad)) (k:∀ z p ob,o z=some (x,p)->p=[]\/p=[0]->look h z=some ob->look h' z=some ob):kW S f x nx o ad a0 vs rs h' :=
 ⟨b,d.t.imp fun n e=>zx (k ad _ _ d.od (.inl rfl) (zV e zj)) zj,d.v0,d.l.imp fun n e=>zx (k a0 _ _ d.o0 (.inr rfl) (zV e zj)) zj,d.od,d.o0⟩
theorem vG {t:Tr} {ts:List Tr} (q:kg t=some ts):∃ us,t=.nd .tup us/\us[0]?=some (.nd .lst ts):=by
 refine ob12 (bind_eq_some_iff.mp q) fun us q1 q2=>?_
 refine ob12 (bind_eq_some_iff.mp q2) fun t0 q2 q3=>?_
 clear q;cases t with
 |sc=>exact no1 q1
 |nd k us'=>cases k with
  |tup =>
   cases q1
   cases t0 with
   |sc=>exact no1 q3
   |nd k ts'=>cases k with
    |lst=>cases q3;exact ⟨us,rfl,q2⟩
    | _=>clear q2;exact no1 q3
  | _=>clear q2 q3;exact no1 q1
theorem kW.tree {x:Nat} {nx:Str} {ad a0:Addr} {vs rs:List Value} {t:Tr} {ts:List Tr} (d:kW S f x nx o ad a0 vs rs h) (c:CxS S f ρ o h) (sx:S.g.sh.getD x .i=.D) (kx:jL (f.env.kindOf nx)=true/\S.sm.lookup nx=some x) (e:ρ[x]?=some (some t)) (q:kg t=some ts) :
  rs.length=ts.length/\∀ (j:Nat) v,j<ts.length->rs[j]?=some v->qC S f ρ o h (x,[0,j]) v/\∀ tt,ts[j]?=some tt->Rd S.B h (fun p=>cO o x .D (0::j::p)) tt v:=by
 refine ob12 c.vl fun u b r=>?_
 refine ob12 (r.get x t e) fun w z1 z2=>?_
 rw [sx] at z2
 refine ob12 (vG q) fun us ez6x1 q2=>?_;clear c q;subst ez6x1
 cases Vz d.b (b nx x w kx.1 kx.2 z1)
 refine ob25 z2.node fun a ys y1 y2 y3 y4 y5=>?_
 clear kx z2;obtain rfl:=rj y1
 refine zc (id y3) fun ly wz8=>?_;obtain ⟨n,ga⟩:=wz8
 refine ob11 d.t fun n' ga'=>?_
 rw [ga] at ga'
 have ev:ys=vs:=congrArg Array.toList (Data.seq.inj (Obj.mk.inj (Option.some.inj ga')).2.2.1).1
 clear ly n ga n' ga';subst ev
 have r0:=y5 0 _ _ q2 d.v0
 refine ob25 r0.node fun a' rs' x1 x2 x3 x4 x5=>?_
 clear r0;obtain rfl:=rj x1
 refine zc (id x3) fun lr wz11=>?_;obtain ⟨m,gr⟩:=wz11
 refine ob11 d.l fun m' gr'=>?_
 rw [gr] at gr'
 have er:rs'=rs:=congrArg Array.toList (Data.seq.inj (Obj.mk.inj (Option.some.inj gr')).2.2.1).1
 clear lr m gr m' gr';subst er
 refine ⟨x4,fun j v l ev=>?_⟩
 have et:=getElem?_eq_getElem l
 exact ⟨⟨u,_,_,_,b,r,e,z1,by rw [sx];exact .cons (k:=.tup) y2 y3 y4 y5 q2 d.v0 (.cons (k:=.lst) x2 x3 x4 x5 et ev (.nil (x5 j _ v et ev)))⟩,fun tt e1=>x5 j tt v e1 ev⟩
theorem CxS.clear {y:Nat} (c:CxS S f ρ o h) (n:∀ s,S.g.ps[y]?=some s->s.own=false):CxS S f (ρ.set y none) o h:=by
 refine ob12 c.vl fun u b r=>?_
 have nn:∀ {x:Nat} {t:Tr},(ρ.set y none)[x]?=some (some t)->ρ[x]?=some (some t):=fun {x t} e=>by
  by_cases z:y=x
  ·subst z
   have l:=(List.getElem?_eq_some_iff.mp e).1
   rw [length_set] at l
   rw [getElem?_set_self l] at e;clear l;cases e
  ·rwa [getElem?_set_ne z] at e
 have r':VL S.B S.g f.vs o (ρ.set y none) u h:=⟨by rw [length_set];exact r.len,by rw [length_set];exact r.small,fun x t e=>r.get x t (nn e),fun j s e1 e2=>by
  have ij:y≠j:=fun z=>by subst z;rw [n s e1] at e2;clear n;exact no3 e2
  rw [getElem?_set_ne ij];exact r.par j s e1 e2⟩
 exact ⟨⟨c.cx.scope,c.cx.ok,c.cx.frm,fun x i t a b e=>c.cx.vars x i t a b (nn e),c.cx.rel,c.cx.flo,c.cx.frames,c.cx.fok,c.cx.here,c.cx.apart⟩,c.lab,c.kl,u,b,r'⟩
theorem KD {J:Nat->VS->Prop} {x y:Nat} {nx ny:Str} {py pos:Pos} {iter:Expr} {body:List Stmt} {t:Tr} {ts:List Tr} (inj:kS S.sm) (hs:stK S.sc S.sm ny y=true) (hy:(S.g.sh.getD y .i).own=false) (sx:S.g.sh.getD x .i=.D) (kx:jL (f.env.kindOf nx)=true/\S.sm.lookup nx=some x) (nxy:nx≠ny) (hset:∀ env z,foldedSetIterable iter env z=pure z)
  (SPx:SP S (.sub (.loc x) (.const (.int 0))) iter) (c:CxS S f ρ o s.heap) (e:ρ[x]?=some (some t)) (q:kg t=some ts) (hJ:∀ j ρ,J j ρ->ρ.set y none=ρ) (j0:J 0 (ρ.set y none))
  (step:∀ j ρj hj tk v ad a0 vs rs,J j ρj->CxS S f ρj o hj->zC frS o o s.heap hj->kW S f x nx o ad a0 vs rs hj->j<ts.length->rs[j]?=some v->yG f.env hj ny v ->
   wpAny S.M f.A (execs body f.env) (fun fl s3=>match fl with | .next=>∃ ρ' h3 tk3,s3=up s h3 tk3/\CxS S f ρ' o h3/\zC frE o o hj h3/\(∀ z p ob,o z=some (x,p)->p=[]\/p=[0]->look hj z=some ob->look h3 z=some ob)/\J (j+1) ρ' | .ret v=>Q (.ret v) s3 | _=>False) (notedBy S.M f.A f.env (cameBackBy S.M f.A f.env f.X.E)) (up s hj tk))
  (done:∀ ρj hj tk,J ts.length ρj->CxS S f ρj o hj->zC frS o o s.heap hj->Q .next (up s hj tk)):wpAny S.M f.A (PySem.exec (.For (.Name ny py) iter body [] pos) f.env) Q f.X.E s:=by
 have no:∀ s,S.g.ps[y]?=some s->s.own=false:=w9 (.inl hy)
 refine ob12 (vG q) fun us et q2=>?_
 have ev:vP S.G S.g.sh S.C (.sub (.loc x) (.const (.int 0))) ρ=.ok (x,[0]):=by
  show (yx x ρ).bind (fun t=>(ZJ (.int 0)).bind fun y=>(Ex.opt (Qc t y)).bind fun j=>.ok (x,[j]))=_
  rw [show yx x ρ=.ok t by unfold yx;rw [e]]
  show (Ex.opt (Qc t (.sc (.int 0)))).bind _=_
  rw [show Qc t (.sc (.int 0))=some 0 by
   rw [et]
   show yX 0 us.length=_
   unfold yX
   rw [if_pos (Int.le_refl 0),if_pos (show (0:Int)<us.length by have:=(List.getElem?_eq_some_iff.mp q2).1;(exact YW this))];rfl]
  rfl
 refine wpAny_For (SPx c ?_) (hset f.env)
 rw [ev]
 intro v h1 tk1 r1 g1 pl
 refine ob45 pl fun u t' w t'' b r e1 e2 rp=>?_;clear pl
 have e1:ρ[x]?=some (some t'):=e1
 rw [e] at e1;clear pos hy hset SPx ev;cases e1
 have rp:RdP S.B h1 t'' v [0] (cO o x (S.g.sh.getD x .i)) t w:=rp
 rw [sx,et] at rp
 have at1:∃ ad a0 vs rs,v=.ref a0/\rs.length=ts.length/\kW S f x nx o ad a0 vs rs h1:=by
  clear sx et e1;cases rp with
  |cons ca ob el es et' ev' rn =>
   rename_i ad k0 vs t1
   clear rp;cases rn with
   |nil r0 =>
    rw [q2] at et';clear q2;obtain rfl:=sj et'
    refine ob25 r0.node fun a0 rs ez16x2 o0 wz16x4 l0 _=>?_;subst ez16x2;obtain ⟨lr,n0,g0⟩:=wz16x4
    refine zc ob fun lt wz17=>?_;clear ob;obtain ⟨nt,gt⟩:=wz17
    exact ⟨_,a0,_,rs,rfl,l0,b nx x _ kx.1 kx.2 e2,⟨nt,gt⟩,ev',⟨n0,g0⟩,ca,o0⟩
 refine ob43 at1 fun ad a0 vs rs ez18x4 lr D1=>?_;clear at1;clear sx kx us et q2 e1 e2 rp;subst ez18x4
 refine ob11 D1.l fun n0 g0=>?_
 refine wpAny_pyIter_list (s:=up s h1 tk1) (zn g0) ?_
 have kp:=zt h1 { cls:=.type "list_iterator",data:=.fields #[.ref a0,.int 0 0] }
 have gp:zA h1 (h1.push { cls:=.type "list_iterator",data:=.fields #[.ref a0,.int 0 0] }):=fun b _=>zb (kp b)
 have c1:=(c.grow r1 g1).grow (r1.grow kp) gp
 have st1:zC frS o o s.heap (h1.push { cls:=.type "list_iterator",data:=.fields #[.ref a0,.int 0 0] }):=zA.step fun b ob e=>gp b ob (g1 b ob e)
 have at1:(h1.push { cls:=.type "list_iterator",data:=.fields #[.ref a0,.int 0 0] }).IsListIter h1.objs.size a0 0:=⟨_,Heap.get?_push_size _ rfl,rfl,rfl⟩
 have oI:o h1.objs.size=none:=r1.free (zH _)
 have bI:=r1.freeB (zH h1)
 have sI:s.heap.get? h1.objs.size=none:=qb g1 (zH _)
 have D1':=D1.keep (h':=h1.push { cls:=.type "list_iterator",data:=.fields #[.ref a0,.int 0 0] }) (D1.b.kept fun b ob _ e=>gp b ob e) fun z p ob _ _ e=>gp z ob e
 have it:XI S.M rs.length (fun j v=>rs[j]?=some v) (fun b=>b=a0) (fun h=>h.get? a0=some (zf rs n0)) h1.objs.size (fun i h=>h.IsListIter h1.objs.size a0 i):=Qu
 generalize h1.push { cls:=.type "list_iterator",data:=.fields #[.ref a0,.int 0 0] }=h2 at *
 generalize h1.objs.size=I at *
 refine codeAny_forLoop_any (fun k s'=>∃ j ρj hj tkj,k=ts.length-j/\j<=ts.length/\s'=up s hj tkj/\CxS S f ρj o hj/\zC frS o o s.heap hj/\hj.IsListIter I a0 j/\kW S f x nx o ad a0 vs rs hj/\hj.get? a0=some (zf rs n0)/\J j (ρj.set y none)) (fun k s' hI=>?_) ts.length ⟨0,ρ,h2,_,rfl,zero_le _,rfl,c1,st1,at1,D1',kp _ _ g0,j0⟩
 refine ob48 hI fun j ρj hj tkj ez20x4 lj ez20x6 cj stj atj Dj wz20=>?_;clear hI;clear j0 tk1 r1 g1 t'' rp at1 g0 D1 kp gp c1 st1 D1';subst ez20x4;clear h2;subst ez20x6;obtain ⟨gj,jj⟩:=wz20
 have ne:∀ {b ob},look s.heap b=some ob->b≠I:=fun {b ob} e z=>by refine ob12 (zp e) fun _ w _=>?_;rw [z,sI] at w;clear sI tkj;exact no1 w
 have nI:∀ {b xp},o b=some xp->b≠I:=fun e z=>by rw [z,oI] at e;clear sI tkj;exact no1 e
 clear sI;rcases Nat.lt_or_eq_of_le lj with lt | rfl
 ·refine it.item j f.A _ _ _ (by rw [lr];exact lt) atj gj fun v h3 tk3 hv at3 k3=>?_
  show wpAny S.M f.A (letOwnedTupleGo (.Name ny py) (.ref I) v) _ _ (up s h3 tk3)
  refine wpAny_pure ?_
  show wpAny S.M f.A (assign (.Name ny py) f.env v) _ _ (up s h3 tk3)
  have c3:=cj.iter (it.kind _ _ atj) oI bI k3
  have nIl:f.env.locals≠I:=fun z=>by have:=c3.lab.loc;rw [z,oI] at this;clear py lj;exact no1 this
  have nIc:∀ w,f.env.cells.lookup w≠some I:=fun w q=>by have:=c3.lab.cell w I q;rw [oI] at this;clear py lj;exact no1 this
  have kf3:xw f.env hj h3:=fun b ob q e=>zb (fun ob=>k3 b ob (by
   clear py lj;rcases q with q | ⟨w,q⟩
   ·rw [q];exact nIl
   ·exact fun z=>nIc w (z▸q))) e
  have D3:=Dj.keep (h':=h3) (Dj.b.kept kf3) fun z p ob oz _ e=>zb (fun ob e=>k3 z ob (nI oz) e) e
  refine wpAny_bind (wpAny_standAt (wpAny_bindName (VV (s:=up s h3 tk3) (tt:=none) inj hs c3 no (fun _ e=>nomatch e) fun h4 tk4 c4 st4 kp4 by4 bz4=>?_)))
  have k4:∀ {b xp},o b=some xp->xp.1<bB->∀ ob,h3.get? b=some ob->h4.get? b=some ob:=fun {b xp} ob' lb ob e=>kp4 b ob (fun z=>by have:=c3.lab.loc;rw [<- z,ob'] at this;clear py inj hs lj Dj kf3;obtain rfl:=sj this;exact absurd lb (by decide)) (fun w z=>by have:=c3.lab.cell w b z;rw [ob'] at this;clear py inj hs lj Dj c3 kf3 ob';obtain rfl:=sj this;exact absurd lb (by decide)) e
  have xb:x<bB:=r.lt e
  have D4:=D3.keep (h':=h4) (bz4 nx _ nxy D3.b) fun z p ob oz _ e=>zb (fun ob e=>k4 oz xb ob e) e
  have at4:h4.IsListIter I a0 (j+1):=it.frame _ _ _ at3 fun ob=>zb fun ob e=>kp4 I ob (Ne.symm nIl) nIc e
  have st3:zC frS o o s.heap h3:=fun b ob q e=>⟨zb (fun ob e'=>k3 b ob (ne e) e') (stj b ob q e).1,rfl⟩
  have st04:=st3.trans st4
  refine wpAny_mono (step j _ h4 tk4 v ad a0 vs rs jj c4 st04 D4 lt hv by4) (fun fl s5 z=>?_) fun _ _ z=>z
  clear ny py body inj hs nxy step w r lj Dj hv at3 c3 nIl nIc kf3 D3 tk4 st4 kp4 by4 bz4 st3;cases fl with
  |next =>
   refine ob35 z fun ρ' h5 tk5 ez22x3 c5 st5 k5 j5=>?_;clear z;subst ez22x3
   refine ob11 (it.alive _ _ at4) fun oi eI=>?_
   exact ⟨ts.length-(j+1),by exact Wd lt,j+1,ρ',h5,tk5,rfl,lt,rfl,c5,st04.trans st5.toS,it.frame _ _ _ at4 fun ob e=>(st5 I ob (.inl (.inl oI)) e).1,D4.keep (D4.b.kept (c4.lab.kept st5)) k5,zx (k5 a0 _ _ D4.o0 (.inr rfl) (zV (k4 D4.o0 xb _ (k3 a0 _ (nI D4.o0) gj)) zj)) zj,by rw [hJ _ _ j5];exact j5⟩
  |ret v=>exact z
  | _=>exact z.elim
 ·refine it.done f.A _ _ _ c.cx.ok.handled (by rw [lr];exact atj) gj fun h3 tk3 k3=>?_
  exact wpAny_execs_nil (done _ h3 tk3 jj ((cj.iter (it.kind _ _ atj) oI bI k3).clear no) fun b ob q e=>⟨zb (fun ob e'=>k3 b ob (ne e) e') (stj b ob q e).1,rfl⟩)
theorem IO.uncl {y:Nat} (no:∀ s,S.g.ps[y]?=some s->s.own=false) (i:IO S f (ρ.set y none) o h):IO S f ρ o h:=⟨i.1,i.2.1,fun j s e q=>by
 refine ob22 (i.2.2 j s e q) fun t v e1 e2=>?_
 have ij:y≠j:=fun z=>by clear i;subst z;rw [no s e] at q;clear no e;exact no3 q
 rw [getElem?_set_ne ij] at e1
 exact ⟨t,v,e1,e2⟩⟩
theorem Zj {s:Sh} (h:isD s=true):s=.D:=by cases s <;> first | rfl | cases h
theorem K2 {x:Str} {i:Nat} (h:stK S.sc S.sm x i=true):qj x=true/\S.sm.lookup x=some i:=by
 unfold stK at h
 simp only [and_eq_true,beq_iff_eq] at h
 exact ⟨h.1.2,h.2⟩
theorem KC (AE:∀ m,PE S g m) {x:Nat} {iter:Expr} (q:(chk g (.sub (.loc x) (.const (.int 0))) S.sc S.sm).E iter=true):∃ nx,xP S.sc S.sm nx x=true/\SP S (.sub (.loc x) (.const (.int 0))) iter/\∀ env z,foldedSetIterable iter env z=pure z:=by
 refine v7 q fun l r p k=>?_
 simp only [and_eq_true,not_eq_true'] at k
 refine zc k fun wz25x0 q3=>?_;clear k;obtain ⟨q1,q2⟩:=wz25x0
 exact zD q1 fun nx px k=>⟨nx,k,Yg q3 k ((AE (.const (.int 0)) _ _).1 _ q2).E,fun _ _=>rfl⟩
theorem GE {y x:Nat} {c0:za} {v:Val} {ny:Str} {py pos p1 p2 p3:Pos} {iter e:Expr} {k:Const} {kn:Nat} (AE:∀ m,PE S g m) (inj:kS S.sm) (hs:stK S.sc S.sm ny y=true) (hx:(chk g (.sub (.loc x) (.const (.int 0))) S.sc S.sm).E iter=true) (hc:ST S c0 e) (hk:qU v k=true) :
  S1 S W (.forp y x c0 v) (.For (.Name ny py) iter [.If e [.Return (some (.Constant k kn p1)) p2] [] p3] [] pos):=fun f ρ o s Q c p=>by
 refine zc (Ps.cond (show Ps S f Q o s (cond (decide (S.g.sh.getD y .i=.u)&&isD (S.g.sh.getD x .i)&&!Nat.beq x y) (VR.opt (ρ[x]?.bind fun o=>o.bind kg) fun ts=>((JK (fun t=>(S.E c0 (ρ.set y (some t))).bind fun u=>Ex.opt (zd u)) ts).on ρ).bind fun b ρ=>if b then .ok (.ret (.sc v)) (ρ.set y none) else .ok .next (ρ.set y none)) .stuck) from p)) fun ok p=>?_
 refine ob12 p.opt fun ts q0 p=>?_
 refine ob12 (bind_eq_some_iff.mp q0) fun ot e1 q1=>?_
 refine ob12 (bind_eq_some_iff.mp q1) fun t e2 e0=>?_
 subst e2
 clear q0 q1
 simp only [and_eq_true,decide_eq_true_eq,not_eq_true'] at ok
 refine zc ok fun wz30x0 xy=>?_;clear ok;obtain ⟨sy,sx⟩:=wz30x0
 have sx:=Zj sx
 have xy:x≠y:=fun z=>by rw [z,beq_refl] at xy;clear py pos p1 p2 p3 kn;exact no4 xy
 refine ob13 (KC AE hx) fun nx kx hp hset=>?_
 refine yP (ya kx) fun k1 k2 k3=>?_
 have kx:jL (f.env.kindOf nx)=true/\S.sm.lookup nx=some x:=⟨by rw [c.cx.kind];exact k1,k3⟩
 have ly:S.sm.lookup ny=some y:=(K2 hs).2
 have hy:(S.g.sh.getD y .i).own=false:=by rw [sy];rfl
 have no:∀ s,S.g.ps[y]?=some s->s.own=false:=w9 (.inl hy)
 refine KD (J:=fun j ρj=>ρj=ρ.set y none/\Ps S f Q o s (((JK (fun t=>(S.E c0 (ρ.set y (some t))).bind fun u=>Ex.opt (zd u)) (ts.drop j)).on ρ).bind fun b ρ=>if b then .ok (.ret (.sc v)) (ρ.set y none) else .ok .next (ρ.set y none))) inj hs hy sx kx (fun z=>xy (by have:=kx.2;rw [z,ly] at this;exact (Option.some.inj this).symm)) hset hp c e1 e0
  (fun j ρ' q=>by rw [q.1];exact List.set_set ..) ⟨rfl,p⟩ (fun j ρj hj tk w ad a0 vs rs q cj st D l ew bw=>?_) fun ρj hj tk q cj st=>?_
 ·refine zc q fun ez33x0 P=>?_;clear q;clear py pos iter AE hs hx p hp hset k1 k2 k3 hy;subst ez33x0
  rw [drop_eq_getElem_cons l] at P
  have et:=getElem?_eq_getElem l
  refine zc (D.tree cj sx kx (by rw [getElem?_set_ne (Ne.symm xy)];exact e1) e0) fun lr T=>?_
  have rd:=(T j w l ew).2 _ et
  have cj':=cj.x (E:=notedBy S.M f.A f.env (cameBackBy S.M f.A f.env f.X.E))
  have cx':Cx S (f.x (notedBy S.M f.A f.env (cameBackBy S.M f.A f.env f.X.E))) (ρ.set y (some ts[j])) o hj:=⟨cj'.cx.scope,cj'.cx.ok,cj'.cx.frm,fun z i t' a b e'=>by
   by_cases yi:y=i
   ·clear p1 p2 p3 kn p e1 e0 xy sx kx ew et lr;subst yi
    have lt:=(List.getElem?_eq_some_iff.mp e').1
    rw [length_set] at lt
    rw [getElem?_set_self lt] at e'
    clear p xy sx kx lt;cases e'
    rw [inj.inj z ny y b ly,sy]
    exact ⟨w,bw,rd.to fun _ _ _=>trivial⟩
   ·rw [getElem?_set_ne yi] at e'
    exact cj'.cx.vars z i t' a b (by rw [getElem?_set_ne yi];exact e'),cj'.cx.rel,cj'.cx.flo,cj'.cx.frames,cj'.cx.fok,cj'.cx.here,cj'.cx.apart⟩
  have P:Ps S f Q o s (((((S.E c0 (ρ.set y (some ts[j]))).bind fun u=>Ex.opt (zd u)).bind fun b=>if b then .ok true else JK (fun t=>(S.E c0 (ρ.set y (some t))).bind fun u=>Ex.opt (zd u)) (ts.drop (j+1))).on ρ).bind fun b ρ=>if b then .ok (.ret (.sc v)) (ρ.set y none) else .ok .next (ρ.set y none)):=P
  refine wpAny_execs_cons (wpAny_If (hc (f:=f.x (notedBy S.M f.A f.env (cameBackBy S.M f.A f.env f.X.E))) (s:=up s hj tk) cx' ?_))
  clear ny p3 inj hc p t e1 e0 xy sy sx kx ly w ew bw et lr rd cx';cases q1:(S.E c0 (ρ.set y (some ts[j]))).bind fun u=>Ex.opt (zd u) with
  |stuck=>rw [q1] at P;exact P.elim
  |exc d =>
   rw [q1] at P
   exact Pv.on (x:=(.exc d:Ex Bool)) (V:=fun _ _ _ (_:Bool)=>True) (Q:=fun _ _=>True) (P:=frS) (s:=up s hj tk) cj' (PX.back (PX.step (show PX S.B f.X (IO S f (ρ.set y none)) frS o s d from fun o' h' tk e base r xc i st x=>P o' h' tk e base r xc (i.uncl no) st x) st) ⟨c.cx.frames,c.cx.here⟩)
  |ok b =>
   rw [q1] at P
   intro b' h1 tk1 r1 g1 eb
   clear c p q1 xy sx kx no cj';cases (show b=b' from eb)
   clear eb;cases b with
   |true =>
    rw [if_pos rfl]
    refine wpAny_execs_cons (wpAny_Return_some (wT (S:=S) (s:=up s h1 tk1) hk fun u tk' hu=>?_))
    refine yP ((cj.grow r1 g1).ends) fun z1 z2 z3=>?_
    exact P _ u h1 tk' z1 z2 (st.trans (zC.trans (zA.step g1) z3)) (.sc hu)
   |false =>
    rw [if_neg (by simp)]
    exact wpAny_execs_nil (wpAny_execs_nil ⟨_,h1,tk1,rfl,cj.grow r1 g1,zA.step g1,fun z _ ob _ _ e=>g1 z ob e,rfl,P⟩)
 ·refine zc q fun ez36x0 P=>?_;clear q;clear ny py pos p1 p2 p3 iter e k kn AE inj hs hx hc hk c p t e1 e0 xy sy sx kx hp hset k1 k2 k3 ly hy no;subst ez36x0
  rw [drop_length] at P
  exact P o hj tk cj st
theorem GF {y x:Nat} {e0:za} {ny:Str} {py pos p1 p2 p3 p4:Pos} {iter e:Expr} (AE:∀ m,PE S g m) (inj:kS S.sm) (hs:stK S.sc S.sm ny y=true) (hx:(chk g (.sub (.loc x) (.const (.int 0))) S.sc S.sm).E iter=true) (he:SE S e0 e) (hst:zI e=false) (hline:(p2.endLine==p3.line)=true) :
  S1 S W (.fora y x e0) (.For (.Name ny py) iter [.Expr (.Call (.Attribute (.Name ny p1) "append" p2) [e] [] p3) p4] [] pos):=fun f ρ o s Q c p=>by
 refine zc (Ps.cond (show Ps S f Q o s (cond (decide (S.g.sh.getD y .i=.u)&&isD (S.g.sh.getD x .i)&&!Nat.beq x y) (VR.opt (ρ[x]?.bind fun o=>o.bind kg) fun ts=>uY S.g.sh (S.E e0) x ts.length 0 (ρ.set y none)) .stuck) from p)) fun ok p=>?_
 refine ob12 p.opt fun ts q0 p=>?_
 refine ob12 (bind_eq_some_iff.mp q0) fun ot e1 q1=>?_
 refine ob12 (bind_eq_some_iff.mp q1) fun t e2 ed=>?_
 subst e2
 clear q0 q1
 simp only [and_eq_true,decide_eq_true_eq,not_eq_true'] at ok
 refine zc ok fun wz41x0 xy=>?_;clear ok;obtain ⟨sy,sx⟩:=wz41x0
 have sx:=Zj sx
 have xy:x≠y:=fun z=>by rw [z,beq_refl] at xy;clear py pos p1 p4;exact no4 xy
 refine ob13 (KC AE hx) fun nx kx hp hset=>?_
 refine yP (ya kx) fun k1 k2 k3=>?_
 have kx:jL (f.env.kindOf nx)=true/\S.sm.lookup nx=some x:=⟨by rw [c.cx.kind];exact k1,k3⟩
 have ly:S.sm.lookup ny=some y:=(K2 hs).2
 refine KD (J:=fun j ρj=>ρj.set y none=ρj/\(∃ t ts',ρj[x]?=some (some t)/\kg t=some ts'/\ts'.length=ts.length)/\Ps S f Q o s (uY S.g.sh (S.E e0) x (ts.length-j) j ρj)) inj hs (by rw [sy];rfl) sx kx (fun z=>xy (by have:=kx.2;rw [z,ly] at this;exact (Option.some.inj this).symm)) hset hp c e1 ed
  (fun j ρ' q=>q.1) ⟨List.set_set ..,⟨t,ts,by rw [getElem?_set_ne (Ne.symm xy)];exact e1,ed,rfl⟩,p⟩ (fun j ρj hj tk w ad a0 vs rs q cj st D l ew bw=>?_) fun ρj hj tk q cj st=>?_
 ·refine yP q fun q0 wz44x1 P=>?_;clear q;obtain ⟨tj,tsj,q1,q2,q3⟩:=wz44x1
  refine zc (D.tree cj sx kx q1 q2) fun lr T=>?_
  have pl:=(T j w (q3▸l) ew).1
  rw [show ts.length-j=(ts.length-(j+1))+1 by exact Dx l] at P
  have P:Ps S f Q o s (VR.opt (yB S.g.sh (x,[0,j]) ρj) fun us=>((S.E e0 ρj).on ρj).bind fun v ρ=>cond (v.isSc&&Nat.blt us.length lim) (uY S.g.sh (S.E e0) x (ts.length-(j+1)) (j+1) (qE (x,[0,j]) (.nd .lst (us++[v])) ρ)) .stuck):=P
  refine ob12 P.opt fun us eo P=>?_
  refine ob36 (K6 pl eo) fun a ws n ez47x3 lf oa ga la z=>?_;clear py pos AE inj hx e1 ed sy sx kx hset k1 k2 k3 ly l ew lr eo;subst ez47x3
  have cj':=cj.x (E:=notedBy S.M f.A f.env (cameBackBy S.M f.A f.env f.X.E))
  refine ob15 (Jj (s:=up s hj tk) (m:=.append) ga) fun TT m0 m1 m2 t1 t2=>?_
  have ns:y6 [e]:=jc hst
  refine wpAny_execs_cons ?_
  rw [exec_Expr f.env _ _ (kK cj.cx) (xX rfl)]
  refine wpAny_bind (wpAny_standAt (wpAny_bind (wpAny_Call_method_late (JC rfl) (uy ns (show 1<20 by decide)) hline rfl (jB (s:=up s hj tk) cj.cx.frm (K2 hs).1 bw ⟨TT,Xa .append,m0,m1,m2,t1,t2,?_⟩))))
  refine Calls.callWith_builtin (yM ns) (qB ns (qF hst (he (f:=f.x (notedBy S.M f.A f.env (cameBackBy S.M f.A f.env f.X.E))) (s:=up s hj tk) cj'.cx ?_)))
  clear hs he hst hline t sx kx bw TT m0 m1 m2 t1 t2 ns;revert P;cases S.E e0 ρj with
  |stuck=>intro P;exact P.elim
  |exc d =>
   intro P
   exact Pv.on (x:=(.exc d:Ex Tr)) (V:=fun _ _ _ (_:Value)=>True) (Q:=fun _ _=>True) (P:=frS) (s:=up s hj tk) cj' (PX.back (PX.step (show PX S.B f.X (IO S f ρj) frS o s d from P) st) ⟨c.cx.frames,c.cx.here⟩)
  |ok tv =>
   intro P
   refine zc (Ps.cond P) fun b1 P=>?_
   refine zc (and_eq_true_iff.mp b1) fun b1 b2=>?_
   intro v h1 tk1 r1 g1 hv
   have ga1:h1.get? a=some (zf ws n):=zx (g1 a _ (zV ga zj)) zj
   have rv:Rd S.B h1 (imm o) tv v:=by
    clear ny p1 p2 p3 p4 c ga cj';cases tv with
    |sc y=>cases hv with | sc q=>exact .sc q
    |nd=>clear hv;exact no3 b1
   have z1:A2 (Rd S.B h1 (imm o)) us ws:=z.imp fun _ _ r=>r.grow g1
   refine TS (m:=.append) (s:=up s h1 tk1) (o:=o) (ts':=us++[tv]) (rt:=.sc .none) (as:=[tv]) ga1 la z1 ⟨v,[],rfl,rv,rfl⟩ (if_pos (le_of_ble_eq_true b2)) fun rv' ys' h3 tk3 keep g3 l3 q5 r5=>?_
   refine zc (Q3 (cj.grow r1 g1) (pl.grow g1) lf oa ga1 keep g3 l3 q5) fun c3 st3=>?_
   have st13:zC frE o o hj h3:=zC.trans (zA.step g1) st3
   refine wpAny_dropValue (wpAny_execs_nil ⟨_,h3,tk3,rfl,c3,st13,fun z p ob oz hp e=>zb (fun ob e=>keep z ob (fun y=>?_) e) (g1 z ob e),?_,?_,P⟩)
   ·rw [y,oa] at oz;clear y ny p1 p2 p3 p4 e c pl v n lf oa ga la cj' b1 b2 r1 g1 hv ga1 rv z1 rv' ys' h3 tk3 keep g3 l3 q5 r5 c3 st3 st13;cases oz;clear e p a b1 h1 tk1 ob;rcases hp with hp | hp <;> cases hp
   ·rw [kz q1,List.set_comm _ _ xy,q0]
   ·refine ob12 (vG q2) fun us0 ez52x1 y2=>?_;clear ny p1 p2 p3 p4 iter e c p xy z hp q2 pl v n lf oa ga la cj' b1 b2 h1 tk1 r1 g1 hv ga1 rv z1 rv' ys' h3 tk3 keep g3 l3 q5 r5 c3 st3 st13;subst ez52x1
    refine ⟨_,tsj.modify j (vV [] (.nd .lst (us++[tv]))),by rw [kz q1];exact getElem?_set_self (List.getElem?_eq_some_iff.mp q1).1,?_,by rw [length_modify];exact q3⟩
    show (us0.modify 0 (vV [j] _))[0]?.bind Jk=_
    rw [getElem?_modify_eq,y2];rfl
 ·refine yP q fun q0 _ P=>?_;clear q
  rw [Nat.sub_self] at P
  exact P o hj tk cj st
end
end Mine
namespace Mine
open PySem
theorem kd:∀ (ns:List Str) (ws:List Value) (x:Str),x∈ns->ns.length=ws.length->((ns.zip ws).lookup x).isSome=true
 | [],_,_,h,_=>by cases h
 |n::ns,[],_,_,h=>by simp at h
 |n::ns,w::ws,x,h,l=>by
  rw [List.zip_cons_cons,lookup_cons]
  split
  ·rfl
  ·rename_i hx
   rcases mem_cons.mp h with rfl | h
   ·simp at hx
   ·exact kd ns ws x h (by simpa using l)
theorem vt:∀ (ns:List Str) (ws:List Value) (pre:List (Str × Value)),ns.Nodup->(∀ x∈ns,pre.lookup x=none)->ns.length=ws.length->(ns.filterMap fun n=>((pre++ns.zip ws).lookup n).map (n,·))=ns.zip ws
 | [],_,_,_,_,_=>rfl
 |n::ns,[],_,_,_,h=>by simp at h
 |n::ns,w::ws,pre,nd,hp,l=>by
  rw [List.zip_cons_cons,List.filterMap_cons]
  have e:(pre++(n,w)::ns.zip ws).lookup n=some w:=by
   rw [List.lookup_append,hp n (.head _)];simp
  rw [e]
  simp only [map_some]
  congr 1
  have:=vt ns ws (pre++[(n,w)]) (nodup_cons.mp nd).2 (fun x hx=>by
   rw [List.lookup_append,hp x (.tail _ hx)]
   have:(x==n)=false:=by
    rw [beq_eq_false_iff_ne];intro q;clear e;subst q;exact (nodup_cons.mp nd).1 hx
   simp [lookup_cons,this]) (by simpa using l)
  rw [append_assoc] at this
  exact this
theorem Yw {α β:Type} (a:α) (f:α->Sem β):((pure a:Sem α) >>= f)=f a:=rfl
theorem Up:seqItems? .none=pure none:=rfl
theorem uU {fd:FuncData} {ws:List Value} {names:List Str} (h1:fd.params.posonlyargs=[]) (h2:fd.params.kwonlyargs=[]) (h3:fd.params.vararg=none) (h4:fd.params.kwarg=none) (h5:fd.defaults=.none)
  (hn:fd.params.args.map (·.arg)=names) (nd:names.Nodup) (hl:ws.length=names.length):bindArgs fd ⟨ws,[]⟩=pure (names.zip ws):=by
 have hm:(names.filter fun n=>((names.zip ws).lookup n).isNone)=[]:=by
  rw [List.filter_eq_nil_iff];intro x hx
  have:=kd names ws x hx hl.symm
  simp only [isNone_iff_eq_none]
  intro q;rw [q] at this;clear x hx q;exact no3 this
 have hf:=vt names ws [] nd (fun _ _=>rfl) hl.symm
 unfold bindArgs
 simp only [h1,h2,h3,h4,h5,hn,map_nil,List.nil_append,append_nil,hl]
 simp only [List.forIn_nil,Yw,Up,Option.getD_none,List.length_nil,Nat.sub_zero,Nat.zero_sub,drop_nil,List.drop_zero,gt_iff_lt,lt_irrefl,decide_false,Bool.false_and,Bool.false_eq_true,if_false,take_length,drop_length,List.zip_nil_right,List.zip_nil_left,hm,List.isEmpty_nil,Bool.not_true]
 exact congrArg pure hf
theorem qz {x:Str}:∀ (names:List (Str × NameKind)) (n:Nat) (acc:List (Str × Addr)),((x,.cell)∈names\/∃ c,acc.lookup x=some c)->∃ c,(cellsFrom n names acc).lookup x=some c
 | [],_,_,h=>h.elim (fun e=>by cases e) id
 | (y,k)::r,n,acc,h=>by
  unfold cellsFrom
  by_cases hk:(k==.cell)=true
  ·rw [if_pos hk]
   refine qz r (n+1) ((y,n)::acc) ?_
   by_cases hy:(x==y)=true
   ·exact .inr ⟨n,by rw [lookup_cons,hy]⟩
   ·have hy':(x==y)=false:=by simpa using hy
    rcases h with h | ⟨c,h⟩
    ·rcases mem_cons.mp h with q | q
     ·obtain ⟨rfl,rfl⟩:=pj q;simp at hy
     ·exact .inl q
    ·exact .inr ⟨c,by rw [lookup_cons,hy'];exact h⟩
  ·rw [if_neg hk]
   refine qz r n acc ?_
   clear n;rcases h with h | h
   ·rcases mem_cons.mp h with q | q
    ·obtain ⟨rfl,rfl⟩:=pj q;simp at hk
    ·exact .inl q
   ·exact .inr h
theorem uR {kindOf:Str->Option NameKind} {x:Str}:∀ (binds:List (Str × Value)) (m:Str->Option Value),x ∉ binds.map (·.1)->bindL kindOf binds m x=m x
 | [],_,_=>rfl
 | (y,v)::r,m,h=>by
  rw [bindL,uR r _ fun q=>h (.tail _ q)]
  split
  ·show (if x=y then some v else m x)=m x
   rw [if_neg fun q=>h (by rw [q];exact .head _)]
  ·rfl
theorem uS {kindOf:Str->Option NameKind} {x:Str}:∀ (binds:List (Str × Value)) (m:Str->Option Value),x ∉ binds.map (·.1)->bindC kindOf binds m x=m x
 | [],_,_=>rfl
 | (y,v)::r,m,h=>by
  rw [bindC,uS r _ fun q=>h (.tail _ q)]
  split
  ·rfl
  ·show (if x=y then some v else m x)=m x
   rw [if_neg fun q=>h (by rw [q];exact .head _)]
theorem QO {kindOf:Str->Option NameKind} {x:Str} {v:Value} (hk:kindOf x=some .local):∀ (binds:List (Str × Value)) (m:Str->Option Value),(binds.map (·.1)).Nodup->(x,v)∈binds->bindL kindOf binds m x=some v
 | [],_,_,h=>by cases h
 | (y,u)::r,m,nd,h=>by
  rw [bindL]
  rcases mem_cons.mp h with q | q
  ·obtain ⟨rfl,rfl⟩:=pj q
   rw [uR r _ (nodup_cons.mp nd).1,if_pos hk];simp
  ·exact QO hk r _ (nodup_cons.mp nd).2 q
theorem QP {kindOf:Str->Option NameKind} {x:Str} {v:Value} (hk:kindOf x≠some .local):∀ (binds:List (Str × Value)) (m:Str->Option Value),(binds.map (·.1)).Nodup->(x,v)∈binds->bindC kindOf binds m x=some v
 | [],_,_,h=>by cases h
 | (y,u)::r,m,nd,h=>by
  rw [bindC]
  rcases mem_cons.mp h with q | q
  ·obtain ⟨rfl,rfl⟩:=pj q
   rw [uS r _ (nodup_cons.mp nd).1,if_neg hk];simp
  ·exact QP hk r _ (nodup_cons.mp nd).2 q
theorem vm {x:Str} {i:Nat}:∀ (l:List Str) (k:Nat),(l.zipIdx k).lookup x=some i->k<=i/\l[i-k]?=some x
 | [],_,h=>by exact no1 h
 |y::l,k,h=>by
  rw [List.zipIdx_cons,lookup_cons] at h
  split at h
  ·rename_i hx;obtain rfl:=sj h;rw [beq_iff_eq] at hx;subst hx;exact ⟨Nat.le_refl _,by simp⟩
  ·refine zc (vm l (k+1) h) fun h1 h2=>?_
   refine ⟨by exact Wc h1,?_⟩
   have:i-k=(i-(k+1))+1:=by exact DW h1
   rw [this];simpa using h2
theorem Yy {l:List (Str × Addr)} {x y:Str} {c:Addr} (h:l.Pairwise fun a b=>a.2≠b.2) (hx:(x,c)∈l) (hy:(y,c)∈l):x=y:=by
 induction l with
 |nil=>cases hx
 |cons p r ih =>
  rw [List.pairwise_cons] at h
  rcases mem_cons.mp hx with q | q <;> rcases mem_cons.mp hy with z | z
  ·rw [<- q] at z;exact (Prod.mk.inj z).1.symm
  ·exact absurd rfl (by have:=h.1 _ z;rw [<- q] at this;exact this)
  ·exact absurd rfl (by have:=h.1 _ q;rw [<- z] at this;exact this)
  ·exact ih h.2 q z
section
variable {S:Su} {g:yd} {F:Nat->Option zr} {mg mb:Str->Option Value} {W:Nat}
noncomputable def PS (S:Su) (W:Nat) (g:yd) (m:zk):Prop:=(∀ st,(uQ g S.sc S.sm m).S st=true->S1 S W m st)/\(∀ l,(uQ g S.sc S.sm m).Ss l=true->SL S W m l)
theorem jH {m:zk} {k:Stmt->Bool} (hm:uQ g S.sc S.sm m=csS k) (h:∀ st,k st=true->S1 S W m st):PS S W g m:=by
 unfold PS;rw [hm];exact ⟨h,fun l q=>no3 q⟩
theorem EG (G:GOk g F S.B mg mb) (C:CS S g F) (hnp:S.np=S.g.ps.length) (inj:kS S.sm):∀ m,PS S W g m:=by
 have AE:=EH G C
 have AX:=EF G C AE hnp
 intro m
 induction m with
 |nil=>exact ⟨fun st q=>no3 q,fun l q=>eqr (isEmpty_iff.mp q) HD⟩
 |cons a b ia ib =>
  refine ⟨fun st q=>no3 q,fun l q=>?_⟩
  cases l with
  |nil=>exact no3 q
  |cons st r=>exact ad2 q fun q1 q2=>GH (ia.1 _ q1) (ib.2 _ q2)
 |assign i e=>exact jH rfl fun st q=>jq q fun t v pos q=>ad3 q fun q1 q2 q3=>zD q1 fun x px q1=>QY G C AE hnp inj q1 (AX _ _ q2) q2 q3
 |asub o i e=>exact jH rfl fun st q=>jq q fun t v pos q=>v7 q fun eo ei p2 q=>ad4 q fun q1 q2 q3 q4=>GK ((AE e _ _).1 _ q1).E (Ts G AE q2) ((AE i _ _).1 _ q3).E
 |aattr o k e =>
  refine jH rfl fun st q=>jq q fun t v pos q=>qG q fun eo nm p2 q=>ad7 q fun q1 q0 q2 q3 q4 q5 q6=>eqr (of_decide_eq_true q0) ?_
  cases z:zQ o with
  |some i=>exact eqr (P:=fun o=>(chk g o S.sc S.sm).E eo=true->S1 S W (.aattr o k e) (.Assign [.Attribute eo (ze k) p2] v pos)) (yb z) (fun q4=>zD q4 fun x px kn=>Uw G q1 (of_decide_eq_true q2) (bn q6) ((AE e _ _).1 _ q5) kn) q4
  |none=>exact Yq z
 |atup ts e=>exact jH rfl fun st q=>jq q fun t v pos q=>v6 q fun l ct p2 q=>ad4 q fun q1 q2 q3 q4=>GJ inj q1 (bn q3) (bn q4) (AX _ _ q2).X
 |expr e=>exact jH rfl fun st q=>Qm q fun v pos q=>ad2 q fun q1 q2=>GG (bn q2) (AX _ _ q1).X
 |ifs c t e it ie=>exact jH rfl fun st q=>V5 q fun x y z pos q=>ad3 q fun q1 q2 q3=>AO (AX _ _ q1).T (it.2 _ q2) (ie.2 _ q3)
 |fors tgt it b ib =>
  refine jH rfl fun st q=>uf q fun x y z pos q=>ad3 q fun q1 q2 q3=>?_
  unfold ZO at q1
  cases z:zQ tgt with
  |some i =>
   rw [z] at q1
   exact eqr (yb z) (zD q1 fun x px q1=>HF inj q1 ((AE it _ _).2.2 _ q2) (ib.2 _ q3))
  |none=>rw [z] at q1;exact no3 q1
 |forp i j c v =>
  exact jH rfl fun st q=>uf q fun x y z pos q=>ad3 q fun q1 q2 q3=>jo q3 fun st q3=>V5 q3 fun a b d p3 q4=>ad3 q4 fun q4 q5 q6=>eqr (isEmpty_iff.mp q6) (Tv q5 fun k' kn p1 p2 hk=>zD q1 fun x px q1=>GE AE inj q1 q2 ((AE c _ _).1 _ q4).T hk)
 |fora i j e =>
  refine jH rfl fun st q=>uf q fun x y z pos q=>zD (P:=fun x=>S1 S W (.fora i j e) (.For x y z [] pos)) q fun x px q=>ad3 q fun q1 q2 q3=>jo q3 fun st q3=>Qm q3 fun a p4 q3=>qa q3 fun fe es p3 q4=>qG q4 fun eo nm p2 q5=>ad4 q5 fun q6 q0 q7 q8=>eqr (of_decide_eq_true q0) ?_
  exact zD q6 fun x' p1 q9=>eqr (of_decide_eq_true q9) (jo q8 fun e1 q10=>ad2 q10 fun q10 q11=>GF AE inj q1 q2 ((AE e _ _).1 _ q10).E (bn q11) q7)
 |whiles c b ib=>exact jH rfl fun st q=>K7 q fun x y pos q=>ad2 q fun q1 q2=>Uu (AX _ _ q1).T (ib.2 _ q2)
 |ret e =>
  refine jH rfl fun st q=>kA q fun v pos q=>?_
  cases v with
  |some v=>exact HA G C AE hnp (AX _ _ q) q
  |none=>exact eqr (UV q) GD
 |raise c =>
  refine jH rfl fun st q=>K9 q fun e pos q=>yK q fun x np es cp q=>ad2 q fun q1 q2=>jo q2 fun y q2=>jJ q2 fun cc k p1 q3=>?_
  cases cc with
  |str t=>exact Uv G q1
  | _=>exact no3 q3
 |tryx b hs ib=>exact jH rfl fun st q=>YF q fun y hl pos q=>ad3 q fun q2 q3 q4=>Hz G (ib.2 _ q2) q3 q4
end
theorem Er {A0 A1 A2 A3 A4 A5 A6 A7 A8 A9 A10 A11 A12 A13 A14 A15 A16 P:Prop} (h:((((((((((((((((A0/\A1)/\A2)/\A3)/\A4)/\A5)/\A6)/\A7)/\A8)/\A9)/\A10)/\A11)/\A12)/\A13)/\A14)/\A15)/\A16)) (k:A0->A1->A2->A3->A4->A5->A6->A7->A8->A9->A10->A11->A12->A13->A14->A15->A16->P):P:=k h.1.1.1.1.1.1.1.1.1.1.1.1.1.1.1.1 h.1.1.1.1.1.1.1.1.1.1.1.1.1.1.1.2 h.1.1.1.1.1.1.1.1.1.1.1.1.1.1.2 h.1.1.1.1.1.1.1.1.1.1.1.1.1.2 h.1.1.1.1.1.1.1.1.1.1.1.1.2 h.1.1.1.1.1.1.1.1.1.1.1.2 h.1.1.1.1.1.1.1.1.1.1.2 h.1.1.1.1.1.1.1.1.1.2 h.1.1.1.1.1.1.1.1.2 h.1.1.1.1.1.1.1.2 h.1.1.1.1.1.1.2 h.1.1.1.1.1.2 h.1.1.1.1.2 h.1.1.1.2 h.1.1.2 h.1.2 h.2
theorem Wu {α:Type} {xs:List α} {n i:Nat} {t:α} (e:(xs.map some++List.replicate n none)[i]?=some (some t)):xs[i]?=some t:=by
 by_cases l:i<xs.length
 ·rw [getElem?_append_left (by rw [length_map];exact l),getElem?_map] at e
  refine ob12 (map_eq_some_iff.mp e) fun y e1 e2=>?_
  rw [e1];exact e2
 ·rw [getElem?_append_right (by rw [length_map];exact le_of_not_lt l)] at e
  have:=mem_of_getElem? e
  rw [List.mem_replicate] at this;clear e;cases this.2
theorem Q0 {α:Type} {xs:List α} {n i:Nat} {t:α} (e:xs[i]?=some t):(xs.map some++List.replicate n none)[i]?=some (some t):=by
 rw [getElem?_append_left (by rw [length_map];exact (List.getElem?_eq_some_iff.mp e).1),getElem?_map,e];rfl
section
variable {g:yd} {F:Nat->Option zr} {mg mb:Str->Option Value} {W:Nat} {prog:Program} {w:World} {B:Heap} {Gs:Nat->Sg}
noncomputable def SuC (prog:Program) (w:World) (B:Heap) (Gs:Nat->Sg) (n:Nat) (C:VC):Su:=⟨n,prog,w,B,default,[],Gs,C,⟨[],[],.i,0⟩,0⟩
theorem Xz (G:GOk g F B mg mb) {k:Nat} {C:VC} (cs:CS (SuC prog w B Gs k C) g F):CS (SuC prog w B Gs (k+1) fun f ts=>vQ F Gs W C f ts) g F:=fun f a ts ws o s A X Q fa ok rel flo hfr hfo lbs ne wl hv p=>by
 have ok:VA (k+1) A:=ok
 refine ob58 fa fun ob fd body names d ho hd hcd hb hcl hgl hbl wz1=>?_;refine yP wz1 fun hdf hF hchk=>?_
 unfold JA at hchk
 simp only [and_eq_true,isEmpty_iff,isNone_iff_eq_none,decide_eq_true_eq,beq_iff_eq] at hchk
 refine Er hchk fun c1 c2 c3 c4 c5 c6 c7 c8 c9 c10 c11 c12 c13 c14 c15 c16 c17=>?_;clear hchk
 rw [all_eq_true] at c14 c15
 have p:PC B X (Gs f) ws o Q s (vQ F Gs W C f ts):=p
 unfold vQ at p
 rw [hF] at p
 have p:PC B X (Gs f) ws o Q s (cond (Nat.beq ts.length d.np&&Nat.beq (Gs f).ps.length d.np&&Nat.ble (d.np+d.ns) 1000000) (qr (qD Gs (Gs f).sh C d.np (Gs f).rs W d.body (ts.map some++List.replicate (d.ns-d.np) none))) .stuck):=p
 cases okc:Nat.beq ts.length d.np&&Nat.beq (Gs f).ps.length d.np&&Nat.ble (d.np+d.ns) 1000000 with
 |false=>rw [okc] at p;exact p.elim
 |true =>
  rw [okc] at p
  refine zc (and_eq_true_iff.mp okc) fun okc k3=>?_
  refine zc (and_eq_true_iff.mp okc) fun k1 k2=>?_
  have k1:=eq_of_beq_eq_true k1
  have k2:=eq_of_beq_eq_true k2
  have k3:d.np+d.ns<=bB:=le_of_ble_eq_true k3
  have p:PC B X (Gs f) ws o Q s (qr (qD Gs (Gs f).sh C d.np (Gs f).rs W d.body (ts.map some++List.replicate (d.ns-d.np) none))):=p
  have wl':ws.length=(names.take d.np).length:=by rw [wl,k1,length_take];omega
  have nd:(names.take d.np).Nodup:=c8.sublist (List.take_sublist _ _)
  have hbind:bindArgs fd ⟨ws,[]⟩=pure ((names.take d.np).zip ws):=uU c1 c2 c3 c4 hdf c7 nd wl'
  have hmap:((names.take d.np).zip ws).map (·.1)=names.take d.np:=List.map_fst_zip (by exact DV wl')
  have lok:∀ x∈names,fd.scope.names.lookup x=some .local\/fd.scope.names.lookup x=some .cell:=fun x hx=>by
   have:=c14 x hx;simpa using this
  have hroom:A.depth<recursionLimit:=by have:=ok.depth;show _<1000;(exact DU this)
  refine codeAny_call_cells hroom (rel.base _ _ ho) hd (G.lim.keeps fun b o e=>rel.base b o e) (hcd.keeps fun b o e=>rel.base b o e) hb hbind hcl (fun x hx=>?_) (fun s₁ ic=>?_) c13 c12 c11
  ·have hm:x.1∈names:=mem_of_mem_take (by rw [<- hmap];exact List.mem_map_of_mem hx)
   clear ho hd hcd hb hcl hdf c1 c2 c3 c4 c7 c8 c12 c13 c14 okc wl' hbind hroom;rcases lok _ hm with q | q
   ·exact .inl q
   ·refine ob11 (qz (x:=x.1) fd.scope.names (s.heap.objs.size+1) [] (.inl (zh q))) fun c hc=>?_
    exact .inr ⟨q,by rw [hc];rfl⟩
  ·refine ob22 ic.done fun h₁ tk ez2x2 kk=>?_;clear ho hd hcd hb hcl hdf c1 c2 c3 c4 c7 c8 c12 c13 c14 okc wl' hbind hroom;subst ez2x2
   have hns:=ic.toInCall.ns
   generalize henv:callEnvC fd s.heap.objs.size a=env at *
   have hloc:env.locals=s.heap.objs.size:=by rw [<- henv];rfl
   have hsc:env.scope=fd.scope:=by rw [<- henv];rfl
   have gr:zA s.heap h₁:=fun b _=>zb (kk b)
   have above:∀ x c,env.cells.lookup x=some c->s.heap.objs.size<c:=fun x c q=>by rw [<- hloc];exact ic.above x c (zh q)
   have none_of:∀ c,s.heap.objs.size<=c->s.heap.get? c=none:=fun c hc=>by
    clear okc;cases e:s.heap.get? c with
    |none=>rfl
    |some o=>exact absurd (Heap.lt_size e) (Nat.not_lt.mpr hc)
   have own:∀ {b},(b=env.locals\/∃ x,env.cells.lookup x=some b)->s.heap.get? b=none:=fun {b} q=>none_of b (by
    clear okc;rcases q with q | ⟨x,q⟩
    ·rw [q,hloc];exact Nat.le_refl _
    ·exact Nat.le_of_lt (above x b q))
   have nown:∀ {b ob},look s.heap b=some ob->¬ (b=env.locals\/∃ x,env.cells.lookup x=some b):=fun {b ob} e q=>by
    refine ob12 (zp e) fun _ y _=>?_;rw [own q] at y;clear okc;exact no1 y
   have cellat:∀ x c,env.cells.lookup x=some c->(∃ v,h₁.IsCell c v)/\c≠env.locals:=fun x c q=>⟨⟨_,ic.cell x c q⟩,by rw [hloc];exact Ne.symm (ne_of_lt (above x c q))⟩
   have frm:Frm env h₁:=by
    refine ⟨by rw [hsc];exact c11,by rw [<- henv];exact hgl,by rw [<- henv];exact hbl,⟨_,hns⟩,cellat,fun x y c q q'=>Yy ic.apart (zh q) (zh q'),fun x q=>?_⟩
    clear hgl hbl okc hloc cellat;rcases q with q | q
    ·rw [<- henv];exact qz fd.scope.names (s.heap.objs.size+1) [] (.inl (zh (by rw [<- hsc];exact q)))
    ·have:=c15 _ (zh (show fd.scope.names.lookup x=some .free by rw [<- hsc];exact q));simp at this
   let S':Su:=⟨k,prog,w,B,fd.scope,names.zipIdx,Gs,C,Gs f,d.np⟩
   let o1:Own:=oC o fun b=>b=env.locals\/∃ x,env.cells.lookup x=some b
   let fr:Fr:=⟨env,A.deeper env,⟨env::X.l,fun e s'=>wpAny (model prog w) (A.deeper env) (leaving env e) (fun _ s''=>X.E e s'') (fun e' s''=>X.E e' s'') s'⟩,ws,o⟩
   have ol:∀ {b ob},look s.heap b=some ob->o1 b=o b:=fun e=>kD (nown e)
   have hb1:HB B o1 h₁:=⟨fun b ob e=>kk b ob (rel.base b ob e),fun b n=>by
    by_cases q:b=env.locals\/∃ x,env.cells.lookup x=some b
    ·refine ⟨rel.freeB (own q),?_⟩
     clear hgl hbl c15 okc hloc nown cellat;rcases q with rfl | ⟨x,q⟩
     ·exact zZ hns
     ·refine ob12 (ic.cell x b q) fun ob e _=>?_;exact ⟨ob,e⟩
    ·have n:o b≠none:=fun z=>n ((kD q).trans z)
     exact ⟨(rel.own b n).1,(rel.own b n).2.imp fun ob=>kk b ob⟩⟩
   have zl:∀ {x:Str} {i:Nat},names.zipIdx.lookup x=some i->names[i]?=some x:=fun {x i} e=>by
    have:=(vm names 0 e).2;rwa [Nat.sub_zero] at this
   have sm:kS S'.sm:=⟨fun x y i hx hy=>by
    have h1:=zl hx
    rw [zl hy] at h1;exact (Option.some.inj h1).symm,fun x i hx=>by
    have:=(List.getElem?_eq_some_iff.mp (zl hx)).1
    (exact Dw c10 k3 this)⟩
   have bnd:Bnd env names.zipIdx (ws.map some++List.replicate (d.ns-d.np) none) h₁:=fun x i v hx hi he=>by
    have hu:=Wu he
    have hlt:=(List.getElem?_eq_some_iff.mp hu).1
    have hxi:=zl hi
    have hmem:(x,v)∈(names.take d.np).zip ws:=by
     have hx2:(names.take d.np)[i]?=some x:=by rw [List.getElem?_take,if_pos (by exact Dv wl k1 hlt)];exact hxi
     refine mem_of_getElem? (i:=i) ?_
     rw [List.getElem?_zip_eq_some];exact ⟨hx2,hu⟩
    have ndm:(((names.take d.np).zip ws).map (·.1)).Nodup:=by rw [hmap];exact nd
    have kof:env.kindOf x=fd.scope.names.lookup x:=by unfold Env.kindOf;rw [hsc]
    clear hgl hbl c10 c15 okc hmap hx hloc nown cellat zl hi hu hlt;rcases lok x (mem_of_getElem? hxi) with q | q
    ·exact .inl ⟨kof.trans q,_,hns,QO (kof.trans q) _ _ ndm hmem⟩
    ·refine ob11 (frm.has x (.inl (kof.trans q))) fun c hc=>?_
     refine .inr ⟨.inl (kof.trans q),c,hc,?_⟩
     have:=ic.cell x c hc
     rw [QP (show env.kindOf x≠some .local by rw [kof,q];simp) _ _ ndm hmem] at this
     exact this
   have vl:VL B (Gs f) ws o1 (ts.map some++List.replicate (d.ns-d.np) none) (ws.map some++List.replicate (d.ns-d.np) none) h₁:=by
    refine ⟨by simp [wl],by simp;(exact Du k1 k3),fun x t e=>?_,fun j z e1 e2=>?_⟩
    ·have ht:=Wu e
     obtain ⟨v,hv'⟩:∃ v,ws[x]?=some v:=⟨_,getElem?_eq_getElem (by rw [wl];exact (List.getElem?_eq_some_iff.mp ht).1)⟩
     refine ⟨v,Q0 hv',(hv x t v ht hv').mono fun p b ob q e=>⟨?_,gr b ob e⟩⟩
     have lx:x<(Gs f).ps.length:=by rw [k2,<- k1];exact (List.getElem?_eq_some_iff.mp ht).1
     have es:(Gs f).sh.getD x .i=(Gs f).ps.getD x .i:=by
      unfold Sg.sh
      rw [getD_eq_getElem?_getD,getD_eq_getElem?_getD,getElem?_append_left lx]
     rw [es,QN (ol e)];exact q
    ·have lj:=(List.getElem?_eq_some_iff.mp e1).1
     have l1:j<ts.length:=by rw [k1,<- k2];exact lj
     have l2:j<ws.length:=by rw [wl];exact l1
     exact ⟨_,_,Q0 (getElem?_eq_getElem l1),getElem?_eq_getElem l2,Q0 (getElem?_eq_getElem l2)⟩
   have hfk:JF B (env::X.l) o1 h₁:=fun e he=>by
    clear wl hv hgl hbl c10 c15 okc k1 hmap lok ic hloc nown cellat zl;rcases mem_cons.mp he with rfl | he
    ·exact ⟨by rw [hsc,c11];simp,e.locals,by rw [<- henv];rfl,.inr (Qp (.inl rfl)),rel.freeB (own (.inl rfl)),_,hns⟩
    ·refine zc (hfo e he) fun h1 wz5=>?_;refine ob14 wz5 fun L h2 h3 h4 wz5=>?_;obtain ⟨m,h5⟩:=wz5
     refine ob11 (zZ h5) fun oL' e0=>?_
     exact ⟨h1,L,h2,by rw [ol (zm e0)];exact h3,h4,m,jv h5 fun ob e=>kk _ ob e⟩
   have cx:CxS S' fr (ts.map some++List.replicate (d.ns-d.np) none) o1 h₁:=by
    refine ⟨⟨hsc,⟨ok.handled,by have:=ok.depth;show A.depth+1+2*k+1<900;(exact DT this),by have:=ok.units;show A.units+3+20*k+110<9900;(exact Dt this)⟩,frm,Cx.ofVL (S:=S') (f:=fr) bnd vl,hb1,flo.oC,Around.frames_deeper hfr,hfk,⟨_,_,rfl,rfl⟩,fun e he L hL x q=>?_⟩,⟨Qp (.inl rfl),fun x c q=>Qp (.inr ⟨x,q⟩)⟩,fun a j p e l lb=>?_,_,bnd,vl⟩
    ·have lt:=above x L q
     clear wl hv hgl hbl c10 c11 c15 okc k1 hmap lok ic kk hns hloc hsc above nown cellat frm hb1 zl bnd vl hfk;rcases mem_cons.mp he with rfl | he
     ·rw [<- henv] at hL;clear k1 henv;obtain rfl:=sj hL;exact absurd lt (lt_irrefl _)
     ·refine zc (hfo e he) fun _ wz6=>?_;refine ob14 wz6 fun L' h2 _ _ wz7=>?_;obtain ⟨m,h5⟩:=wz7
      rw [hL] at h2;clear hfo k1 henv he hL wz6;obtain rfl:=sj h2
      refine ob11 (zZ h5) fun oL' eo=>?_
      rw [none_of L (Nat.le_of_lt lt)] at eo;clear none_of he m h5 lt;exact no1 eo
    ·have e:o a=some (j,p):=e
     refine zc (rel.own a (by rw [e];exact fun z=>nomatch z)) fun _ wz7=>?_;refine ob11 wz7 fun ob e1=>?_
     exact (ol (zm e1)).trans e
   have st1:∀ b ob,frS (o b)->look s.heap b=some ob->look h₁ b=some ob/\o1 b=o b:=fun b ob _ e=>⟨gr b ob e,ol e⟩
   have klo:∀ {o':Own},KL S' fr o'->∀ a j p,o a=some (j,p)->j<(Gs f).ps.length->o' a=o a:=fun kl a j p e l=>(kl a j p e l (by rw [k2] at l;(exact Ds k3 l))).trans e.symm
   refine (EG (S:=S') (W:=W) (mg:=mg) (mb:=mb) G cs k2.symm sm d.body).2 body c17 (s:=up s h₁ tk) cx ?_
   cases q:S'.X W d.body (ts.map some++List.replicate (d.ns-d.np) none) with
   |stuck=>rw [show qD Gs (Gs f).sh C d.np (Gs f).rs W d.body (ts.map some++List.replicate (d.ns-d.np) none)=.stuck from q] at p;exact p.elim
   |exc c ρ' =>
    rw [show qD Gs (Gs f).sh C d.np (Gs f).rs W d.body (ts.map some++List.replicate (d.ns-d.np) none)=.exc c ρ' from q] at p
    intro o' h' tk' e base r xc i st x
    refine Xm (s:=up s h' tk') (Around.frames_deeper hfr) x fun h'' x2 up'=>p o' h'' tk' e base r xc ⟨i.1,klo i.2.1,i.2.2⟩ (qf.hop ⟨zC.trans st1 st.step,fun b ob q e nd=>st.based b ob (by rw [ol e];exact q) (gr b ob e) (by rw [ol e];exact nd)⟩ x.1 x2.1 up') x2
   |ok pr ρ' =>
    rw [show qD Gs (Gs f).sh C d.np (Gs f).rs W d.body (ts.map some++List.replicate (d.ns-d.np) none)=.ok pr ρ' from q] at p
    cases pr with
    |next=>exact fun o' h' tk' c' st=>p o' .none h' tk' c'.cx.rel c'.cx.flo (zC.trans st1 st) (klo c'.kl) c'.io.2.2 (.sc rfl)
    |ret t=>exact fun o' v h' tk' r i st rv=>p o' v h' tk' r i.1 (zC.trans st1 st) (klo i.2.1) i.2.2 rv
theorem VA.less {n:Nat} {A:Around} (h:VA (n+1) A):VA n A:=⟨h.handled,by have:=h.depth;(exact Dr this),by have:=h.units;(exact Dq this)⟩
theorem KO (G:GOk g F B mg mb):∀ k,CS (SuC prog w B Gs k (vcN F Gs W k)) g F
 | 0=>fun f a ts ws o s A X Q fa ok rel flo hfr hfo lbs ne wl hv p=>(show False from p).elim
 |k+1=>fun f a ts ws o s A X Q fa ok rel flo hfr hfo lbs ne wl hv p=>by
  have ih:=KO G k
  have p:PC B X (Gs f) ws o Q s (cond (Nat.blt (Gs f).rk k) (vcN F Gs W k f ts) (cond (Nat.beq (Gs f).rk k) (vQ F Gs W (vcN F Gs W k) f ts) .stuck)):=p
  revert p;cases Nat.blt (Gs f).rk k with
  |true=>intro p;exact ih f a ts ws o s A X Q fa ok.less rel flo hfr hfo lbs ne wl hv p
  |false =>
   intro p
   revert p;cases Nat.beq (Gs f).rk k with
   |true=>intro p;exact Xz G ih f a ts ws o s A X Q fa ok rel flo hfr hfo lbs ne wl hv p
   |false=>intro p;exact p.elim
end
end Mine
namespace Mine
open PySem PySem.W PyProof.Rows
noncomputable def WN:List (Str × GI):=[(Str.ofString "len",.bi "len"),(Str.ofString "sum",.bi "sum"),(Str.ofString "min",.bi "min"),(Str.ofString "max",.bi "max"),(Str.ofString "all",.bi "all"),
 (Str.ofString "int",.ty "int"),(Str.ofString "str",.ty "str"),(Str.ofString "list",.ty "list"),(Str.ofString "tuple",.ty "tuple"),(Str.ofString "bool",.ty "bool"),(Str.ofString "range",.ty "range"),(Str.ofString "isinstance",.bi "isinstance"),(Str.ofString "ValueError",.ty "ValueError"),(Str.ofString "zip",.ty "zip")]
noncomputable def KT (x:Str):GI->Prop
 | .ty T=>bootBuiltins x=some (.type T)
 | .bi T=>bootBuiltins x=some (.builtin T)
 | _=>False
theorem ZS:∀ q∈WN,KT q.1 q.2:=by
 simp only [WN,List.forall_mem_cons]
 exact ⟨Boot.«len»,Boot.«sum»,Boot.«min»,Boot.«max»,Boot.«all»,Boot.«int»,Boot.«str»,Boot.«list»,Boot.«tuple»,Boot.«bool»,Boot.«range»,Boot.«isinstance»,Boot.«ValueError»,Boot.«zip»,fun _ h=>nomatch h⟩
noncomputable def EC:List Str:=WN.map (·.1)
noncomputable def WH:Val->PyData->Bool
 | .int i,.int j=>decide (i=j)
 | .str s,.str t=>decide (t=⟨s.toArray⟩)&&decide (s.length<=lim)
 | _,_=>false
theorem Xq {v:Val} {d:PyData} {h:Heap} {u:Value} (e:WH v d=true) (r:Reads h u d []):ScR v u:=by
 cases v with
 |int i =>
  cases d with
  |int j =>
   have e:=of_decide_eq_true e
   subst e;cases r;exact ⟨_,rfl⟩
  | _=>exact no3 e
 |str i =>
  cases d with
  |str j =>
   have e:(decide (j=⟨i.toArray⟩)&&decide (i.length<=lim))=true:=e
   rw [and_eq_true] at e
   have e1:=of_decide_eq_true e.1
   have e2:=of_decide_eq_true e.2
   subst e1;cases r;exact ⟨e2,_,rfl⟩
  | _=>exact no3 e
 | _=>exact no3 e
noncomputable def als:List (Str × Str):=[("in_rooms_rooms","in_rooms"),("in_heaps_heaps","in_heaps")]
noncomputable def Hf (x:Str):Str:=(als.lookup x).getD x
noncomputable def Am (cs:List Nat) (s:Shared):Bool:=(als.all fun a=>decide (s.heap.nsMap mainGlobals a.1=s.heap.nsMap mainGlobals a.2))&&(0::cs).all fun c=>decide (c<9)&&s.heap.ownExcOk (zO c) (if c=0 then [] else [zO 0]) JB "ValueError.__new__"&&(match s.heap.clsAt mainGlobals (zO c) with | some x=>decide (x.2.2.name=zO c)&&vg.all (fun n=>(s.heap.nsMap x.2.2.ns n).isNone) | none=>false)
noncomputable def w5 (cs:List Nat) (h:Heap):Prop:=(∀ a∈als,h.nsMap mainGlobals a.1=h.nsMap mainGlobals a.2)/\∀ c∈0::cs,h.nsMap mainGlobals (zO c)=some (.ref (yV h c))/\yz h c
theorem Tk {h:Heap} {name:Str} {chain:List Str} {bm:List Value} {newId:String} (t:h.ownExcOk name chain bm newId=true):∃ (C:Addr) (r:XR),h.nsMap mainGlobals name=some (Value.ref C)/\h.get? C=some (excClassObj r.nm r.q C r.N r.bs (List.map (fun n=>(h.nsMap mainGlobals n).getD Value.none) chain++bm) r.hdct r.sn r.sub r.ab r.col r.dd r.k0 r.k1 r.k2 r.k3 r.k5 newId)/\h.Ns r.N r.mN/\r.mN=h.nsMap r.N:=by
 refine ob71 (Heap.ownExc_of_ok t) fun C N nm q bs hdct sn wz0=>?_;refine ob71 wz0 fun sub ab col dd k0 k1 k2 wz0=>?_;refine ob24 wz0 fun k3 k5 e1 e2 e3 e4=>?_
 exact ⟨C,⟨nm,N,q,bs,hdct,sn,sub,ab,col,dd,k0,k1,k2,k3,k5,_⟩,e1,e2,e3,rfl⟩
theorem Xn {cs:List Nat} {s:Shared} (e:Am cs s=true):w5 cs s.heap:=by
 have ea:=all_eq_true.mp (and_eq_true_iff.mp e).2
 have one:∀ c∈0::cs,c<9/\s.heap.ownExcOk (zO c) (if c=0 then [] else [zO 0]) JB "ValueError.__new__"=true/\∃ o cd,s.heap.nsMap mainGlobals (zO c)=some (.ref (yV s.heap c))/\s.heap.get? (yV s.heap c)=some o/\o.data=.cls cd/\cd.name=zO c/\∀ n∈vg,s.heap.nsMap cd.ns n=none:=fun c hc=>by
  have:=ea c hc
  rw [and_eq_true,and_eq_true] at this
  refine zc this fun wz1x0 t3=>?_;clear this;refine zc wz1x0 fun t1 t2=>?_;clear wz1x0
  refine ⟨of_decide_eq_true t1,t2,?_⟩
  split at t3
  ·rename_i x hx
   obtain ⟨C,o,cd⟩:=x
   refine yP (Heap.clsAt_spec hx) fun n1 n2 n3=>?_
   have hK:yV s.heap c=C:=by unfold yV;rw [n1]
   rw [hK]
   rw [and_eq_true] at t3
   exact ⟨o,cd,n1,n2,n3,of_decide_eq_true t3.1,fun n hn=>isNone_iff_eq_none.mp (all_eq_true.mp t3.2 n hn)⟩
  ·clear ea t1 t2;exact no3 t3
 refine yP (one 0 (.head _)) fun _ t0 wz3=>?_;refine ob25 wz3 fun o0 cd0 m1 m2 m3 m4 m5=>?_;clear wz3
 refine ⟨fun a ha=>of_decide_eq_true (all_eq_true.mp (and_eq_true_iff.mp e).1 a ha),fun c hc=>?_⟩
 refine yP (one c hc) fun l t wz4=>?_;refine ob25 wz4 fun o cd n1 n2 n3 n4 n5=>?_;clear wz4
 have base0:∃ c0 dd sl cd m0,s.heap.get? (yV s.heap 0)=some { cls:=c0,dict:=dd,data:=.cls cd,slots:=sl }/\cd.name=zO 0/\s.heap.Ns cd.ns m0/\∀ n∈vg,m0 n=none:=by
  refine ob24 (Tk t0) fun C r e1 e2 e3 e4=>?_
  rw [m1] at e1;clear e ea hc t0;obtain rfl:=rj (sj e1)
  obtain rfl:=sj (e2.symm.trans m2);cases m3
  exact ⟨_,_,_,_,_,e2,m4,e3,fun n hn=>by rw [e4];exact m5 n hn⟩
 refine ⟨n1,l,base0,?_⟩
 refine ob24 (Tk t) fun C r e1 e2 e3 e4=>?_
 rw [n1] at e1
 clear e ea hc n1 t0 o0 cd0 m2 m3 m4 m5 l t base0;obtain rfl:=rj (sj e1)
 have ht:((if c=0 then [] else [zO 0]).map fun n=>(s.heap.nsMap mainGlobals n).getD .none)++JB=tlK s.heap c:=by
  unfold tlK
  by_cases z:c=0
  ·rw [if_pos z,if_pos z];rfl
  ·rw [if_neg z,if_neg z,map_cons,map_nil,m1];rfl
 have hnm:r.nm=zO c/\∀ n∈vg,s.heap.nsMap r.N n=none:=by
  rw [e2] at n2;clear m1;obtain rfl:=sj n2;cases n3;exact ⟨n4,n5⟩
 refine zc hnm fun hnm hqn=>?_
 have hT:OwnTail s.heap JB (((if c=0 then [] else [zO 0]).map fun n=>(s.heap.nsMap mainGlobals n).getD .none)++JB):=OwnTail.of_chain _ fun n hn=>by
  by_cases z:c=0
  ·rw [if_pos z] at hn;clear o cd n2 n3 m1 n4 n5;cases hn
  ·rw [if_neg z] at hn;rw [mem_singleton.mp hn];exact ⟨_,_,_,(one 0 (.head _)).2.1⟩
 rw [ht] at e2 hT
 rw [hnm] at e2
 exact ⟨r,e2,e3,fun n hn=>by rw [e4];exact hqn n hn,hT⟩
theorem Js {cs:List Nat} {h h':Heap} (y:w5 cs h) (k:∀ b o,h.get? b=some o->h'.get? b=some o):w5 cs h':=by
 have nm:∀ c∈0::cs,h'.nsMap mainGlobals=h.nsMap mainGlobals:=fun c hc=>by
  have:=(y.2 c hc).1
  funext x
  cases e:h.get? mainGlobals with
  |none=>unfold Heap.nsMap at this;rw [e] at this;exact no1 this
  |some o=>unfold Heap.nsMap;rw [k _ _ e,e]
 have hm:=nm 0 (.head _)
 have hK:∀ c,yV h' c=yV h c:=fun c=>by unfold yV;rw [hm]
 have ht:∀ c,tlK h' c=tlK h c:=fun c=>by unfold tlK;rw [hK 0]
 refine ⟨fun a ha=>by rw [hm];exact y.1 a ha,fun c hc=>?_⟩
 refine Kb (y.2 c hc) fun y1 l wz7x2 wz7=>?_;refine ob54 wz7x2 fun c0 dd0 sl0 cd0 m0 y2 y3 y4 y5=>?_;clear wz7x2;refine ob14 wz7 fun r z1 z2 z3 z4=>?_;clear wz7
 rw [hm,hK]
 refine ⟨y1,l,⟨c0,dd0,sl0,cd0,m0,by rw [hK];exact k _ _ y2,y3,jv y4 fun o e=>k _ o e,y5⟩,r,?_,jv z2 fun o e=>k _ o e,z3,?_⟩
 ·unfold XR.obj;rw [hK,ht];exact k _ _ z1
 ·rw [ht];exact z4.keeps k
noncomputable def exHook (cs:List Nat):Hook:=⟨Bool,Am cs,fun _=>true,fun _ h=>w5 cs h,fun _ _ e=>Xn e,fun _ _ _ y k=>Js y k⟩
theorem Kg {x y:Str} (h:qk x=qk y):x=y:=by
 unfold qk at h
 have h:Str.append ("Table.":Str) x=Str.append ("Table.":Str) y:=h
 unfold Str.append at h
 obtain ⟨x⟩:=x
 obtain ⟨y⟩:=y
 simp only [Str.mk.injEq] at h
 have:=congrArg Array.toList h
 simp only [Array.toList_append] at this
 have:=List.append_cancel_left this
 exact congrArg Str.mk (Array.toList_inj.mp this)
noncomputable def JQ (p:Program) (loose:List Str):Option ClsRec:=(plainsOf p loose).find? fun c=>c.name==qi
noncomputable def Xx (c:ClsRec) (nm:Nat->List Str) (F:Nat->Option zr) (g:yd) (x:Str) (f:Nat):Bool:=match c.meths.find? (fun m=>m.name==x),F f with
 |some m,some d=>JA g (nm f) m.params m.scope m.body d
 | _,_=>false
noncomputable def Zp (p:Program) (loose:List Str) (x:Str) (i:GI):Bool:=WN.lookup x==some i&&(x==("__name__":Str))==false&&!startupNames.contains x&&!loose.contains x&&!((recsOf p).map (·.name)).contains x&&!((litsOf p).map (·.1)).contains x&&!((clssOf p loose).map (·.name)).contains x
noncomputable def Ha (cs:List Nat) (p:Program) (loose:List Str) (nm:Nat->List Str) (F:Nat->Option zr) (g:yd):Bool:=g.all fun q=>match q.2 with
 | .fn f=>(match (recsOf p).find? (fun d=>d.name==Hf q.1),F f with
  |some d,some m=>JA g (nm f) d.params d.scope d.body m
  | _,_=>false)
 | .const v=>(match valOf p q.1 with | some d=>WH v d | none=>false)
 | .cls c=>decide (q.1=zO c)&&cs.contains c
 | .tab f=>decide (q.1=qi)&&(match JQ p loose with
  |some c=>Xx c nm F g "__init__" f&&(["__getattribute__","__getattr__","__setattr__",ze 0,ze 1,ze 2]:List Str).all fun x=>c.withCmp.quiet.contains x
  |none=>false)
 | .meth f=>(match JQ p loose with
  |some c=>c.meths.any fun m=>decide (q.1=qk m.name)&&Xx c nm F g m.name f
  |none=>false)
 |i=>Zp p loose q.1 i
theorem Az {h:Heap} (y:∀ a∈als,h.nsMap mainGlobals a.1=h.nsMap mainGlobals a.2) (x:Str):h.nsMap mainGlobals x=h.nsMap mainGlobals (Hf x):=by
 unfold Hf
 cases e:als.lookup x with
 |none=>rfl
 |some z=>exact y _ (zh e)
theorem Wv {p:Program} {loose:List Str} {mean:ExcName->Option Value} {mg mb:Str->Option Value} {h:Heap} {x:Str} {i:GI} (T:Top p loose mean mg mb h) (this:Zp p loose x i=true):mg x=none/\mb x=bootBuiltins x/\KT x i:=by
 unfold Zp at this
 simp only [and_eq_true,beq_iff_eq,not_eq_true',List.contains_eq_mem,decide_eq_false_iff_not,beq_eq_false_iff_ne,ne_eq] at this
 refine zc this fun wz8x0 t7=>?_;clear this;refine oc6 wz8x0 fun t1 t2 t3 t4 t5 t6=>?_;clear wz8x0
 exact ⟨T.free x t3 t4 t5 t6 t7,T.builtins x t2,ZS _ (zh t1)⟩
theorem G3 {p:Program} {loose:List Str} {mean:ExcName->Option Value} {mg mb:Str->Option Value} {h:Heap} {nm:Nat->List Str} {F:Nat->Option zr} {g:yd} {cs:List Nat}
  (T:Top p loose mean mg mb h) (e:Ha cs p loose nm F g=true) (Y:w5 cs h) (TE:TopE p loose mg h):GOk g F h mg mb:=by
 unfold Ha at e
 rw [all_eq_true] at e
 refine ⟨T.g,T.b,T.nolimit,fun x f q=>?_,fun x v q=>?_,fun x t q=>?_,fun x t q=>?_,fun x c q=>?_,fun f q=>?_⟩
 ·have:=e _ (zh q)
  simp only at this
  split at this
  ·rename_i d m hd hm
   have hmem:=mem_of_find?_eq_some hd
   have hname:=find?_some hd
   simp only [beq_iff_eq] at hname
   refine ob54 (T.fn d hmem) fun a o pm code doc h1 h2 h3 h4=>?_
   exact ⟨a,by rw [T.g.eq_nsMap,Az Y.1,<- hname,<- T.g.eq_nsMap];exact h1,o,_,d.body,nm f,m,h2,h3,h4,rfl,rfl,rfl,rfl,rfl,hm,this⟩
  ·exact no3 this
 ·have:=e _ (zh q)
  simp only at this
  split at this
  ·rename_i d hd
   refine ob12 (T.const x d hd) fun u h1 h2=>?_
   exact ⟨u,h1,Xq this (h2 h)⟩
  ·exact no3 this
 ·have z:=Wv (x:=x) (i:=.ty t) T (e _ (zh q))
  exact ⟨z.1,z.2.1.trans z.2.2⟩
 ·have z:=Wv (x:=x) (i:=.bi t) T (e _ (zh q))
  exact ⟨z.1,z.2.1.trans z.2.2⟩
 ·have:=e _ (zh q)
  have this:(decide (x=zO c)&&cs.contains c)=true:=this
  rw [and_eq_true] at this
  have hx:=of_decide_eq_true this.1
  subst hx
  refine zc (Y.2 c (.tail _ (contains_iff_mem.mp this.2))) fun y1 y2=>?_
  exact ⟨by rw [T.g.eq_nsMap];exact y1,y2⟩
 ·have:=e _ (zh q)
  have this:(decide (qi=qi)&&(match JQ p loose with
   |some c=>Xx c nm F g "__init__" f&&(["__getattribute__","__getattr__","__setattr__",ze 0,ze 1,ze 2]:List Str).all fun x=>c.withCmp.quiet.contains x
   |none=>false))=true:=this
  have this:=(and_eq_true_iff.mp this).2
  clear q;cases hc:JQ p loose with
  |none=>rw [hc] at this;exact no3 this
  |some c =>
   rw [hc] at this
   have hmem:=mem_of_find?_eq_some hc
   have hname:=find?_some hc
   simp only [beq_iff_eq] at hname
   refine ob32 (TE c hmem) fun C N mN h1 P=>?_
   rw [hname] at h1
   have hK:QU h=C:=by
    unfold QU
    have:h.nsMap mainGlobals "Table"=some (.ref C):=by rw [<- T.g.eq_nsMap];exact h1
    rw [this]
   have quiet:∀ x,x∈(["__getattribute__","__getattr__","__setattr__",ze 0,ze 1,ze 2]:List Str)->mN x=none:=fun x hx=>P.quiet x (contains_iff_mem.mp (all_eq_true.mp (and_eq_true_iff.mp this).2 x hx))
   have meth:∀ x f',Xx c nm F g x f'=true->∃ a o,mN x=some (.ref a)/\h.get? a=some o/\o.cls=.type "function"/\Vx g F h f' a:=fun x f' hx=>by
    unfold Xx at hx
    split at hx
    ·rename_i m d hm hd
     have m1:=mem_of_find?_eq_some hm
     have m2:=find?_some hm
     simp only [beq_iff_eq] at m2
     refine ob55 (P.meths m m1) fun a o pm cd doc n1 n2 n3 n4 n5=>?_
     exact ⟨a,o,by rw [<- m2];exact n1,n2,n3,o,_,m.body,nm f',d,n2,n4,n5,rfl,rfl,rfl,rfl,rfl,hd,hx⟩
    ·clear TE hmem hname;exact no3 hx
   refine ⟨by rw [hK];exact h1,N,mN,hK▸P.cls,meth _ _ (and_eq_true_iff.mp this).1,quiet _ (by simp),quiet _ (by simp),quiet _ (by simp),fun k hk=>quiet _ (by
    have:k=0\/k=1\/k=2:=by exact We hk
    clear TE hmem hname h1 hK quiet hk;rcases this with rfl | rfl | rfl <;> simp),fun x f' hx=>?_⟩
   have t2:=e _ (zh hx)
   have t2:(match JQ p loose with | some c=>c.meths.any fun m=>decide (qk x=qk m.name)&&Xx c nm F g m.name f' | none=>false)=true:=t2
   rw [hc] at t2
   refine ob12 (List.any_eq_true.mp t2) fun m _ hm=>?_
   have hx':x=m.name:=Kg (of_decide_eq_true (and_eq_true_iff.mp hm).1)
   rw [hx']
   exact meth _ _ (and_eq_true_iff.mp hm).2
noncomputable abbrev UY (xs:List Int):List Tr:=xs.map fun i=>.sc (.int i)
theorem Kk {P:Params} {B h:Heap} {c:Cl}:∀ {vs:List Value} {xs:List Int},WellAll P h vs (ofPys (xs.map PyData.int))->A2 (Rd B h c) (UY xs) vs
 |vs,[],w=>by cases w;rfl
 |vs,x::xs,w=>by
  cases w with
  |cons h1 h2=>cases h1;exact ⟨_,_,rfl,.sc ⟨_,rfl⟩,Kk h2⟩
theorem law_ends {p prog:Program} {w:World} {loose:List Str} {mean mean':ExcName->Option Value} {cl:Str->Option Addr} {mg mb:Str->Option Value} {nm:Nat->List Str} {F:Nat->Option zr} {Gs:Nat->Sg} {g:yd} {s₁:Shared} {fa a:Addr} {xs:List Int} {c:ClaimW} {args:List WData} {W k f:Nat} {ρ:VS} {cs:List Nat}
  (T:Top p loose mean mg mb s₁.heap) (e:Ha cs p loose nm F g=true) (Y:w5 cs s₁.heap) (TE:TopE p loose mg s₁.heap) (hg:s₁.gens=#[]) (hf:g.lookup (Str.ofString "law")=some (.fn f)) (hmg:mg (Str.ofString "law")=some (.ref fa))
  (wl:Well w.params s₁.heap (.ref a) (ofPy (.list (xs.map PyData.int)))) (hk:k<200) (hl:xs.length<=63) (hps:(Gs f).ps=[.i])
  (run:vcN F Gs W k f [.nd .ro (UY xs)]=.ok (.sc (.bool true)) ρ)
  (hn:∀ cls,c.raises args cls=false) (hp:c.post args (.bool true) args=true) :
  codeAny (model prog w) callerA (.call (.ref fa) { pos:=[.ref a] }) (GoodWG c cl mean' args s₁) s₁:=by
 have G:=G3 T e Y TE
 refine ob12 (G.fn _ _ hf) fun fa' q1 q2=>?_
 rw [hmg] at q1
 clear TE hf hmg;cases q1
 cases wl with
 |list ho hw =>
  rename_i vs
  refine codeAny_mono (KO (prog:=prog) (w:=w) (W:=W) (Gs:=Gs) G k f fa [.nd .ro (UY xs)] [.ref a] (fun _=>none) s₁ callerA ⟨[],fun _ _=>False⟩ (fun v s'=>v=.bool true/\(∀ b o,s₁.heap.get? b=some o->s'.heap.get? b=some o)/\s'.os=s₁.os/\s'.gens=s₁.gens) q2 ⟨rfl,?_,?_⟩ ⟨fun _ _ e=>e,fun _ n=>absurd rfl n⟩ (fun _ _ _ e=>nomatch e) rfl (fun _ h=>nomatch h) (fun _ _ _ e=>nomatch e) (fun z=>nomatch z) rfl (fun j t v z1 z2=>?_) ?_) ?_
  ·show 301+2*k<900;(exact DS hk)
  ·show 4+20*k+100<9900;(exact DR hk)
  ·show Rd s₁.heap s₁.heap (cO (fun _=>none) j ((Gs f).ps.getD j .i)) t v
   rw [hps]
   clear prog mean' cl fa hk hps q2;cases j with
   |succ j=>cases z1
   |zero =>
    cases z1;cases z2
    have al:=Kk (B:=s₁.heap) (c:=fun _ _=>True) hw
    exact .nd (k:=.ro) rfl ⟨by rw [al.len,length_map];exact Nat.le_trans hl (by decide),_,ho⟩ al.len fun j t v e1 e2=>(al.at e1 e2).to fun _ _ _=>rfl
  ·show PC s₁.heap _ (Gs f) _ _ _ s₁ (vcN F Gs W k f [.nd .ro (UY xs)])
   rw [run]
   intro o' v h' tk r _ st _ _ rv
   exact ⟨rv.isSc,r.base,rfl,rfl⟩
  ·intro r s' q
   clear prog Gs fa a k f ρ hk hl hps run q2 ho;cases r with
   |error e=>exact q.elim
   |ok r =>
    clear nm e;cases r with
    |ret v =>
     refine Kb q fun ez4x0 h1 h2 h3=>?_;clear q;subst ez4x0
     exact GoodW.toG ⟨.inl ⟨_,_,[],rfl,hn,.bool true,hp,fun _=>⟨List.nodup_nil,fun _ h=>nomatch h⟩⟩,h1,h2,by rw [h3,hg]⟩
    | _=>exact q.elim
end Mine
namespace Mine
open PySem PySem.W PyProof.Rows PySem.Calls
noncomputable def xB (tb:String->Option Builtin) (p:Program) (w:World) (n₀:Nat) (ann:Option Value):Nat->SharedT->Thread->Option SharedT
 | 0,_,_=>none
 |n+1,s,t=>match through t with
  |true=>some s
  |false=>match stepOk n₀ ann t with
   |false=>none
   |true=>match stepT (denote tb) p w s t with
    |some (s',t')=>xB tb p w n₀ ann n s' t'
    |none=>none
theorem xT {tb:String->Option Builtin} {p:Program} {w:World} {n₀:Nat} {ann:Option Value}:∀ {n:Nat} {s s':SharedT} {t:Thread},xB tb p w n₀ ann n s t=some s'->topRun tb p w n₀ ann n s.abs t=some s'.abs
 | 0,_,_,_,h=>by cases h
 |n+1,s,s',t,h=>by
  unfold xB at h
  unfold topRun
  cases he:through t with
  |true=>rw [he] at h;cases h;rfl
  |false =>
   rw [he] at h
   cases hk:stepOk n₀ ann t with
   |false=>rw [hk] at h;cases h
   |true =>
    rw [hk] at h
    cases hs:stepT (denote tb) p w s t with
    |none=>rw [hs] at h;cases h
    |some r=>obtain ⟨s₂,t₂⟩:=r;rw [hs] at h;rw [stepT_spec hs];exact xT h
noncomputable def w4 (P:Params):BT:=(boot_heap P).objs.toList.foldl (fun (x:BT × Nat) o=>(x.1.ins x.2 o,x.2+1)) (BT.nil,0) |>.1
theorem EE (P:Params):absHeap (w4 P) 11 (boot_heap P).life=boot_heap P:=by kernel_rfl
theorem Jm {p q:Program} {loose:List Str} {Xt:Shared->Bool} {α:Type} {Yf:Shared->α} {Ya:World->α} {N:Nat} {g0:Bool} {ann:Option Value}
  (e:opening p=plainProg p.main.scope.names) (hN:Nat.ble 600 N=true) (f:∀ s,fenceModules? p s=some s)
  (size:∀ w:World,((boot_heap w.params).isNs mainGlobals&&(Array.mk []:Array GenState).size==0,(boot_heap w.params).objs.size,(boot_heap w.params).nsMap mainGlobals "__annotations__")=(true,11,ann))
  (run:∀ (w:World) (os:OsState),(xB treeTable p w 11 ann N ⟨w4 w.params,11,(boot_heap w.params).life,Array.mk [],boot_drawn,boot_toks,os⟩ (topStub p)).map (fun S =>
   ((staticsOk (importedModules p.main.body) (boot_heap w.params) S.abs.heap&&namesBound p S.abs.heap&&gensDone S.abs&&laidKept (boot_heap w.params) S.abs.heap),openSeen q loose (importedModules p.main.body) Xt g0 S.abs,Yf S.abs))=some (true,openGood q loose,Ya w)):LeftO p q loose Xt Yf Ya N g0:=fun w=>by
 obtain ⟨⟨h,gs,d,k,os⟩,e1,e'⟩:=map_eq_some_iff.mp (boot_open e hN f w)
 obtain ⟨rfl,rfl,rfl,rfl⟩:h=boot_heap w.params/\gs=Array.mk []/\d=boot_drawn/\k=boot_toks:=by simpa using e'
 obtain ⟨z1,z2,z3⟩:_/\_/\_:=by simpa only [Prod.mk.injEq] using size w
 obtain ⟨S,r,l⟩:=map_eq_some_iff.mp (run w os)
 obtain ⟨l1,l2,l3⟩:_/\_/\_:=by simpa only [Prod.mk.injEq] using l
 have r:=xT r
 rw [show SharedT.abs ⟨w4 w.params,11,(boot_heap w.params).life,Array.mk [],boot_drawn,boot_toks,os⟩=⟨boot_heap w.params,Array.mk [],boot_drawn,boot_toks,os⟩ from by unfold SharedT.abs;rw [EE]] at r
 have t:topFrom treeTable p w N ⟨boot_heap w.params,Array.mk [],boot_drawn,boot_toks,os⟩=some S.abs:=by
  unfold topFrom
  dsimp only
  rw [z1,z2,z3,r]
  show (match staticsOk (importedModules p.main.body) (boot_heap w.params) S.abs.heap&&namesBound p S.abs.heap&&gensDone S.abs&&laidKept (boot_heap w.params) S.abs.heap with | true=>_ | false=>_)=_
  rw [l1]
 unfold openEnds
 rw [e1]
 show (topFrom treeTable p w N _).map _=_
 rw [t]
 exact congrArg some (Prod.ext l2 l3)
end Mine
namespace Mine
open PySem
noncomputable def xn:zr:=⟨1,1,
 (.cons (.ret (.and (.isinst .int (.loc 0)) (.un .Not (.isinst .bool (.loc 0)))))
 .nil)⟩
noncomputable def uD:zr:=⟨2,2,
 (.cons (.ret (.and (.call 1 (.cons (.loc 0) .nil)) (.cmp2 .LtE .Lt (.const (.int 0)) (.loc 0) (.loc 1))))
 .nil)⟩
noncomputable def qd:zr:=⟨1,2,
 (.cons (.fors (.loc 1) (.iobj (.loc 0))
 (.cons (.ifs (.or (.un .Not (.call 1 (.cons (.loc 1) .nil))) (.un .Not (.cmp2 .LtE .LtE (.const (.int 0)) (.loc 1) (.gconst (.int 1000000000000)))))
 (.cons (.raise 4)
 .nil)
 .nil)
 .nil))
 .nil)⟩
noncomputable def yZ:zr:=⟨2,2,
 (.cons (.ifs (.cmp .NotEq (.bi .len (.cons (.loc 0) .nil)) (.loc 1))
 (.cons (.raise 3)
 .nil)
 .nil)
 (.cons (.expr (.call 3 (.cons (.loc 0) .nil)))
 .nil))⟩
noncomputable def Vl:zr:=⟨1,2,
 (.cons (.ifs (.cmp .Eq (.bi .len (.cons (.loc 0) .nil)) (.const (.int 0)))
 (.cons (.raise 1)
 .nil)
 .nil)
 (.cons (.ifs (.or (.cmp .Gt (.bi .len (.cons (.loc 0) .nil)) (.gconst (.int 9))) (.cmp .Gt (.bi .len (.cons (.sub (.loc 0) (.const (.int 0))) .nil)) (.gconst (.int 40))))
 (.cons (.raise 2)
 .nil)
 .nil)
 (.cons (.fors (.loc 1) (.iobj (.loc 0))
 (.cons (.expr (.call 4 (.cons (.loc 1) (.cons (.bi .len (.cons (.sub (.loc 0) (.const (.int 0))) .nil)) .nil))))
 .nil))
 .nil)))⟩
noncomputable def WC:zr:=⟨2,3,
 (.cons (.ret (.bi .sum (.cons (.comp (.sub (.loc 0) (.loc 2)) (.loc 2) (.iobj (.loc 1)) (.const (.bool true))) .nil)))
 .nil)⟩
noncomputable def Kp:zr:=⟨2,4,
 (.cons (.assign 2 (.const (.int 0)))
 (.cons (.fors (.loc 3) (.irange (.bi .len (.cons (.loc 0) .nil)))
 (.cons (.ifs (.cmp .Gt (.sub (.sub (.loc 0) (.loc 3)) (.loc 1)) (.sub (.sub (.loc 0) (.loc 2)) (.loc 1)))
 (.cons (.assign 2 (.loc 3))
 .nil)
 .nil)
 .nil))
 (.cons (.ret (.loc 2))
 .nil)))⟩
noncomputable def vC:zr:=⟨1,8,
 (.cons (.expr (.call 5 (.cons (.loc 0) .nil)))
 (.cons (.assign 1 (.comp (.lst .nil) (.loc 5) (.irange (.bi .len (.cons (.loc 0) .nil))) (.const (.bool true))))
 (.cons (.fors (.loc 2) (.irange (.bi .len (.cons (.sub (.loc 0) (.const (.int 0))) .nil)))
 (.cons (.expr (.meth .append (.sub (.loc 1) (.call 12 (.cons (.loc 0) (.cons (.loc 2) .nil)))) (.cons (.loc 2) .nil)))
 .nil))
 (.cons (.assign 3 (.comp (.call 0 (.cons (.sub (.loc 0) (.loc 6)) (.cons (.sub (.loc 1) (.loc 6)) .nil))) (.loc 6) (.irange (.bi .len (.cons (.loc 0) .nil))) (.const (.bool true))))
 (.cons (.assign 4 (.bi .sum (.cons (.loc 3) .nil)))
 (.cons (.ret (.tup (.cons (.loc 1) (.cons (.comp (.bin .Sub (.bin .Mult (.loc 7) (.bi .len (.cons (.loc 0) .nil))) (.loc 4)) (.loc 7) (.iobj (.loc 3)) (.const (.bool true))) .nil))))
 .nil))))))⟩
noncomputable def WD:zr:=⟨4,14,
 (.cons (.assign 4 (.bi .len (.cons (.loc 0) .nil)))
 (.cons (.assign 5 (.const (.int 0)))
 (.cons (.assign 6 (.bin .Mult (.lst (.cons (.const .none) .nil)) (.bin .Add (.loc 4) (.const (.int 1)))))
 (.cons (.assign 7 (.bin .Mult (.lst (.cons (.const (.int 0)) .nil)) (.bin .Add (.loc 4) (.const (.int 1)))))
 (.cons (.assign 8 (.bin .Mult (.lst (.cons (.const (.bool false)) .nil)) (.bin .Add (.loc 4) (.const (.int 1)))))
 (.cons (.whiles (.cmp .NotEq (.sub (.loc 3) (.loc 5)) (.const (.int 0)))
 (.cons (.asub (.loc 8) (.loc 5) (.const (.bool true)))
 (.cons (.assign 9 (.sub (.loc 3) (.loc 5)))
 (.cons (.assign 10 (.const (.int 0)))
 (.cons (.fors (.loc 11) (.irange2 (.const (.int 1)) (.bin .Add (.loc 4) (.const (.int 1))))
 (.cons (.ifs (.un .Not (.sub (.loc 8) (.loc 11)))
 (.cons (.assign 12 (.bin .Sub (.bin .Sub (.sub (.sub (.loc 0) (.bin .Sub (.loc 9) (.const (.int 1)))) (.bin .Sub (.loc 11) (.const (.int 1)))) (.sub (.loc 1) (.loc 9))) (.sub (.loc 2) (.loc 11))))
 (.cons (.ifs (.or (.cmp .Is (.sub (.loc 6) (.loc 11)) (.const .none)) (.cmp .Lt (.loc 12) (.sub (.loc 6) (.loc 11))))
 (.cons (.asub (.loc 6) (.loc 11) (.loc 12))
 (.cons (.asub (.loc 7) (.loc 11) (.loc 5))
 .nil))
 .nil)
 (.cons (.ifs (.or (.cmp .Eq (.loc 10) (.const (.int 0))) (.cmp .Lt (.sub (.loc 6) (.loc 11)) (.sub (.loc 6) (.loc 10))))
 (.cons (.assign 10 (.loc 11))
 .nil)
 .nil)
 .nil)))
 .nil)
 .nil))
 (.cons (.assign 13 (.sub (.loc 6) (.loc 10)))
 (.cons (.fors (.loc 11) (.irange (.bin .Add (.loc 4) (.const (.int 1))))
 (.cons (.ifs (.sub (.loc 8) (.loc 11))
 (.cons (.asub (.loc 1) (.sub (.loc 3) (.loc 11)) (.bin .Add (.sub (.loc 1) (.sub (.loc 3) (.loc 11))) (.loc 13)))
 (.cons (.asub (.loc 2) (.loc 11) (.bin .Sub (.sub (.loc 2) (.loc 11)) (.loc 13)))
 .nil))
 (.cons (.ifs (.cmp .Gt (.loc 11) (.const (.int 0)))
 (.cons (.asub (.loc 6) (.loc 11) (.bin .Sub (.sub (.loc 6) (.loc 11)) (.loc 13)))
 .nil)
 .nil)
 .nil))
 .nil))
 (.cons (.assign 5 (.loc 10))
 .nil))))))))
 (.cons (.ret (.tup (.cons (.loc 5) (.cons (.loc 7) .nil))))
 .nil)))))))⟩
noncomputable def uE:zr:=⟨1,9,
 (.cons (.assign 1 (.bi .len (.cons (.loc 0) .nil)))
 (.cons (.assign 2 (.bin .Mult (.lst (.cons (.const (.int 0)) .nil)) (.bin .Add (.loc 1) (.const (.int 1)))))
 (.cons (.assign 3 (.bin .Mult (.lst (.cons (.const (.int 0)) .nil)) (.bin .Add (.loc 1) (.const (.int 1)))))
 (.cons (.assign 4 (.bin .Mult (.lst (.cons (.const (.int 0)) .nil)) (.bin .Add (.loc 1) (.const (.int 1)))))
 (.cons (.fors (.loc 5) (.irange2 (.const (.int 1)) (.bin .Add (.loc 1) (.const (.int 1))))
 (.cons (.asub (.loc 4) (.const (.int 0)) (.loc 5))
 (.cons (.atup [6,7] (.call 15 (.cons (.loc 0) (.cons (.loc 2) (.cons (.loc 3) (.cons (.loc 4) .nil))))))
 (.cons (.whiles (.cmp .NotEq (.loc 6) (.const (.int 0)))
 (.cons (.asub (.loc 4) (.loc 6) (.sub (.loc 4) (.sub (.loc 7) (.loc 6))))
 (.cons (.assign 6 (.sub (.loc 7) (.loc 6)))
 .nil)))
 .nil))))
 (.cons (.assign 8 (.bin .Mult (.lst (.cons (.const (.int 0)) .nil)) (.loc 1)))
 (.cons (.fors (.loc 6) (.irange2 (.const (.int 1)) (.bin .Add (.loc 1) (.const (.int 1))))
 (.cons (.asub (.loc 8) (.bin .Sub (.sub (.loc 4) (.loc 6)) (.const (.int 1))) (.bin .Sub (.loc 6) (.const (.int 1))))
 .nil))
 (.cons (.ret (.loc 8))
 .nil))))))))⟩
noncomputable def Kq:zr:=⟨2,8,
 (.cons (.assign 2 (.bi .len (.cons (.loc 0) .nil)))
 (.cons (.assign 3 (.bin .Mult (.lst (.cons (.const (.int 0)) .nil)) (.loc 2)))
 (.cons (.fors (.loc 4) (.irange (.loc 2))
 (.cons (.fors (.loc 5) (.irange (.loc 2))
 (.cons (.fors (.loc 6) (.irange (.loc 2))
 (.cons (.assign 7 (.bin .Sub (.sub (.sub (.loc 0) (.loc 5)) (.sub (.loc 1) (.loc 6))) (.sub (.sub (.loc 0) (.loc 5)) (.sub (.loc 1) (.loc 5)))))
 (.cons (.asub (.loc 3) (.loc 6) (.bi .max (.cons (.sub (.loc 3) (.loc 6)) (.cons (.bin .Add (.sub (.loc 3) (.loc 5)) (.loc 7)) .nil))))
 .nil)))
 .nil))
 .nil))
 (.cons (.ret (.loc 3))
 .nil))))⟩
noncomputable def j6:zr:=⟨1,13,
 (.cons (.expr (.call 5 (.cons (.loc 0) .nil)))
 (.cons (.assign 1 (.bi .len (.cons (.loc 0) .nil)))
 (.cons (.assign 2 (.bi .len (.cons (.sub (.loc 0) (.const (.int 0))) .nil)))
 (.cons (.ifs (.cmp .Gt (.loc 2) (.loc 1))
 (.cons (.raise 2)
 .nil)
 .nil)
 (.cons (.assign 3 (.comp (.bin .Add (.bi .list (.cons (.loc 9) .nil)) (.bin .Mult (.lst (.cons (.const (.int 0)) .nil)) (.bin .Sub (.loc 1) (.loc 2)))) (.loc 9) (.iobj (.loc 0)) (.const (.bool true))))
 (.cons (.assign 4 (.call 16 (.cons (.comp (.comp (.bin .Sub (.const (.int 0)) (.loc 11)) (.loc 11) (.iobj (.loc 10)) (.const (.bool true))) (.loc 10) (.iobj (.loc 3)) (.const (.bool true))) .nil)))
 (.cons (.assign 5 (.call 17 (.cons (.loc 3) (.cons (.loc 4) .nil))))
 (.cons (.assign 6 (.bi .sum (.cons (.loc 5) .nil)))
 (.cons (.assign 7 (.lst .nil))
 (.cons (.fors (.loc 8) (.iobj (.loc 4))
 (.cons (.ifs (.cmp .Lt (.loc 8) (.loc 2))
 (.cons (.expr (.meth .append (.loc 7) (.cons (.lst (.cons (.loc 8) .nil)) .nil)))
 .nil)
 (.cons (.expr (.meth .append (.loc 7) (.cons (.lst .nil) .nil)))
 .nil))
 .nil))
 (.cons (.ret (.tup (.cons (.loc 7) (.cons (.comp (.bin .Sub (.bin .Mult (.loc 12) (.loc 1)) (.loc 6)) (.loc 12) (.iobj (.loc 5)) (.const (.bool true))) .nil))))
 .nil)))))))))))⟩
noncomputable def xj:zr:=⟨1,1,
 (.cons (.ret (.and (.isinst .int (.loc 0)) (.un .Not (.isinst .bool (.loc 0)))))
 .nil)⟩
noncomputable def vB:zr:=⟨2,2,
 (.cons (.ifs (.cmp .Lt (.loc 1) (.bi .len (.cons (.loc 0) .nil)))
 (.cons (.ret (.sub (.loc 0) (.loc 1)))
 .nil)
 .nil)
 (.cons (.ifs (.cmp .Eq (.bi .len (.cons (.loc 0) .nil)) (.const (.int 0)))
 (.cons (.ret (.bin .Mult (.loc 1) (.const (.int 7919))))
 .nil)
 .nil)
 (.cons (.ret (.bin .Mod (.bin .Add (.bin .Mult (.sub (.loc 0) (.bin .Mod (.bin .Mult (.loc 1) (.const (.int 7))) (.bi .len (.cons (.loc 0) .nil)))) (.const (.int 48271))) (.bin .Mult (.loc 1) (.const (.int 7919)))) (.const (.int 2147483647))))
 .nil)))⟩
noncomputable def xm:zr:=⟨2,4,
 (.cons (.assign 2 (.lst .nil))
 (.cons (.fors (.loc 3) (.irange (.loc 1))
 (.cons (.assign 0 (.bin .Mod (.bin .Add (.bin .Mult (.loc 0) (.const (.int 48271))) (.const (.int 12345))) (.const (.int 2147483647))))
 (.cons (.expr (.meth .append (.loc 2) (.cons (.bin .FloorDiv (.loc 0) (.const (.int 16))) .nil)))
 .nil)))
 (.cons (.ret (.loc 2))
 .nil)))⟩
noncomputable def QD:zr:=⟨2,2,
 (.cons (.ifs (.cmp .Eq (.loc 1) (.const (.int 0)))
 (.cons (.ret (.bin .Mod (.loc 0) (.const (.int 3))))
 .nil)
 .nil)
 (.cons (.ifs (.cmp .Eq (.loc 1) (.const (.int 1)))
 (.cons (.ret (.bin .Mod (.loc 0) (.const (.int 100))))
 .nil)
 .nil)
 (.cons (.ifs (.cmp .Eq (.loc 1) (.const (.int 2)))
 (.cons (.ret (.bin .Mod (.loc 0) (.const (.int 1000000000001))))
 .nil)
 .nil)
 (.cons (.ret (.bin .Sub (.const (.int 1000000000000)) (.bin .Mult (.bin .Mod (.loc 0) (.const (.int 3))) (.bin .Add (.bin .Mult (.bin .Mod (.bin .FloorDiv (.loc 0) (.const (.int 3))) (.const (.int 2))) (.const (.int 499999999999))) (.const (.int 1))))))
 .nil))))⟩
noncomputable def xh:zr:=⟨2,4,
 (.cons (.assign 2 (.const (.int 0)))
 (.cons (.fors (.loc 3) (.iobj (.loc 1))
 (.cons (.assign 2 (.bin .Add (.loc 2) (.sub (.loc 0) (.loc 3))))
 .nil))
 (.cons (.ret (.loc 2))
 .nil)))⟩
noncomputable def vu:zr:=⟨2,3,
 (.cons (.ifs (.or (.un .Not (.isinst .list (.loc 0))) (.cmp .NotEq (.bi .len (.cons (.loc 0) .nil)) (.loc 1)))
 (.cons (.ret (.const (.bool false)))
 .nil)
 .nil)
 (.cons (.fors (.loc 2) (.iobj (.loc 0))
 (.cons (.ifs (.un .Not (.call 22 (.cons (.loc 2) .nil)))
 (.cons (.ret (.const (.bool false)))
 .nil)
 .nil)
 .nil))
 (.cons (.ret (.const (.bool true)))
 .nil)))⟩
noncomputable def xl:zr:=⟨3,6,
 (.cons (.ifs (.or (.un .Not (.isinst .list (.loc 0))) (.cmp .NotEq (.bi .len (.cons (.loc 0) .nil)) (.loc 1)))
 (.cons (.ret (.const (.bool false)))
 .nil)
 .nil)
 (.cons (.assign 3 (.bin .Mult (.lst (.cons (.const (.int 0)) .nil)) (.loc 2)))
 (.cons (.fors (.loc 4) (.iobj (.loc 0))
 (.cons (.ifs (.un .Not (.isinst .list (.loc 4)))
 (.cons (.ret (.const (.bool false)))
 .nil)
 .nil)
 (.cons (.fors (.loc 5) (.iobj (.loc 4))
 (.cons (.ifs (.or (.un .Not (.call 22 (.cons (.loc 5) .nil))) (.or (.cmp .Lt (.loc 5) (.const (.int 0))) (.cmp .GtE (.loc 5) (.loc 2))))
 (.cons (.ret (.const (.bool false)))
 .nil)
 .nil)
 (.cons (.asub (.loc 3) (.loc 5) (.bin .Add (.sub (.loc 3) (.loc 5)) (.const (.int 1))))
 .nil)))
 .nil)))
 (.cons (.ret (.cmp .Eq (.loc 3) (.bin .Mult (.lst (.cons (.const (.int 1)) .nil)) (.loc 2))))
 .nil))))⟩
noncomputable def uC:zr:=⟨3,3,
 (.cons (.ifs (.or (.un .Not (.isinst .tuple (.loc 0))) (.cmp .NotEq (.bi .len (.cons (.loc 0) .nil)) (.const (.int 2))))
 (.cons (.ret (.const (.bool false)))
 .nil)
 .nil)
 (.cons (.ret (.and (.call 32 (.cons (.sub (.loc 0) (.const (.int 0))) (.cons (.loc 1) (.cons (.loc 2) .nil)))) (.and (.call 28 (.cons (.sub (.loc 0) (.const (.int 1))) (.cons (.loc 1) .nil))) (.cmp .Eq (.bi .sum (.cons (.sub (.loc 0) (.const (.int 1))) .nil)) (.const (.int 0))))))
 .nil))⟩
noncomputable def wm:zr:=⟨3,7,
 (.cons (.assign 3 (.bi .len (.cons (.loc 0) .nil)))
 (.cons (.fors (.loc 4) (.irange (.loc 3))
 (.cons (.assign 5 (.bin .Sub (.bin .Mult (.loc 3) (.call 27 (.cons (.sub (.loc 0) (.loc 4)) (.cons (.sub (.loc 1) (.loc 4)) .nil)))) (.sub (.loc 2) (.loc 4))))
 (.cons (.fors (.loc 6) (.irange (.loc 3))
 (.cons (.ifs (.cmp .Gt (.bin .Sub (.bin .Mult (.loc 3) (.call 27 (.cons (.sub (.loc 0) (.loc 4)) (.cons (.sub (.loc 1) (.loc 6)) .nil)))) (.sub (.loc 2) (.loc 6))) (.loc 5))
 (.cons (.ret (.const (.bool true)))
 .nil)
 .nil)
 .nil))
 .nil)))
 (.cons (.ret (.const (.bool false)))
 .nil)))⟩
noncomputable def xg:zr:=⟨1,1,
 (.cons (.ret (.sub (.lst (.cons (.un .USub (.const (.int 1))) (.cons (.const (.int 1000000000001)) (.cons (.const (.bool true)) (.cons (.const (.bool false)) (.cons (.const (.str [49])) (.cons (.const .none) (.cons (.lst (.cons (.const (.int 1)) .nil)) (.cons (.tup (.cons (.const (.int 1)) .nil)) .nil))))))))) (.bin .Mod (.loc 0) (.const (.int 8)))))
 .nil)⟩
noncomputable def uz:zr:=⟨3,5,
 (.cons (.assign 3 (.comp (.call 25 (.cons (.sub (.loc 0) (.loc 4)) (.cons (.loc 2) .nil))) (.loc 4) (.irange (.loc 1)) (.const (.bool true))))
 (.cons (.ifs (.and (.cmp .Eq (.bin .Mod (.bin .Mod (.sub (.loc 0) (.const (.int 41))) (.const (.int 12))) (.const (.int 4))) (.const (.int 1))) (.and (.cmp .Lt (.bin .Mod (.sub (.loc 0) (.const (.int 41))) (.const (.int 12))) (.const (.int 6))) (.cmp .Gt (.loc 1) (.const (.int 0)))))
 (.cons (.asub (.loc 3) (.bin .Mod (.sub (.loc 0) (.const (.int 42))) (.loc 1)) (.call 58 (.cons (.sub (.loc 0) (.const (.int 43))) .nil)))
 .nil)
 .nil)
 (.cons (.ifs (.or (.cmp .Eq (.bin .Mod (.sub (.loc 0) (.const (.int 41))) (.const (.int 12))) (.const (.int 2))) (.cmp .Eq (.bin .Mod (.sub (.loc 0) (.const (.int 41))) (.const (.int 12))) (.const (.int 5))))
 (.cons (.expr (.meth .insert (.loc 3) (.cons (.bin .Mod (.sub (.loc 0) (.const (.int 42))) (.bin .Add (.loc 1) (.const (.int 1)))) (.cons (.const (.int 1)) .nil))))
 .nil)
 .nil)
 (.cons (.ifs (.and (.cmp .Eq (.bin .Mod (.sub (.loc 0) (.const (.int 41))) (.const (.int 12))) (.const (.int 3))) (.cmp .Gt (.loc 1) (.const (.int 0))))
 (.cons (.expr (.meth .pop (.loc 3) .nil))
 .nil)
 .nil)
 (.cons (.ret (.loc 3))
 .nil)))))⟩
noncomputable def xk:zr:=⟨2,2,
 (.cons (.ifs (.cmp .Eq (.bin .Mod (.loc 0) (.const (.int 9))) (.const (.int 0)))
 (.cons (.ret (.sub (.lst (.cons (.loc 1) (.cons (.un .USub (.const (.int 1))) (.cons (.const (.bool true)) (.cons (.const (.bool false)) (.cons (.const .none) (.cons (.const (.str [48])) (.cons (.lst (.cons (.const (.int 0)) .nil)) (.cons (.tup (.cons (.const (.int 0)) .nil)) (.cons (.bin .Add (.bin .Add (.loc 1) (.const (.int 1))) (.bin .Mod (.bin .FloorDiv (.loc 0) (.const (.int 81))) (.const (.int 1000)))) .nil)))))))))) (.bin .Mod (.bin .FloorDiv (.loc 0) (.const (.int 9))) (.const (.int 9)))))
 .nil)
 .nil)
 (.cons (.ret (.bin .Mod (.bin .FloorDiv (.loc 0) (.const (.int 9))) (.bi .max (.cons (.const (.int 1)) (.cons (.loc 1) .nil)))))
 .nil))⟩
noncomputable def wt:zr:=⟨1,1,
 (.cons (.ret (.and (.call 22 (.cons (.loc 0) .nil)) (.and (.cmp .GtE (.loc 0) (.const (.int 0))) (.cmp .LtE (.loc 0) (.const (.int 1000000000000))))))
 .nil)⟩
noncomputable def kM:zr:=⟨2,3,
 (.cons (.ifs (.cmp .NotEq (.bi .len (.cons (.loc 0) .nil)) (.loc 1))
 (.cons (.ret (.const (.str [85,110,101,118,101,110])))
 .nil)
 .nil)
 (.cons (.fors (.loc 2) (.iobj (.loc 0))
 (.cons (.ifs (.un .Not (.call 35 (.cons (.loc 2) .nil)))
 (.cons (.ret (.const (.str [66,97,100,66,105,100])))
 .nil)
 .nil)
 .nil))
 (.cons (.ret (.const (.str [])))
 .nil)))⟩
noncomputable def kN:zr:=⟨2,2,
 (.cons (.ret (.and (.call 22 (.cons (.loc 0) .nil)) (.and (.cmp .GtE (.loc 0) (.const (.int 0))) (.cmp .Lt (.loc 0) (.loc 1)))))
 .nil)⟩
noncomputable def uB:zr:=⟨3,6,
 (.cons (.assign 3 (.call 24 (.cons (.loc 0) (.cons (.const (.int 46)) .nil))))
 (.cons (.assign 4 (.bin .Mod (.bin .FloorDiv (.sub (.loc 3) (.const (.int 44))) (.const (.int 3))) (.const (.int 4))))
 (.cons (.ifs (.cmp .Lt (.bin .Mod (.loc 0) (.const (.int 16))) (.const (.int 4)))
 (.cons (.ret (.lst (.cons (.const (.str [99,111,109,101])) (.cons (.call 59 (.cons (.loc 3) (.cons (.loc 2) (.cons (.loc 4) .nil)))) .nil))))
 .nil)
 .nil)
 (.cons (.ifs (.cmp .Eq (.bin .Mod (.loc 0) (.const (.int 16))) (.const (.int 4)))
 (.cons (.ret (.lst (.cons (.const (.str [108,101,97,118,101])) (.cons (.call 60 (.cons (.sub (.loc 3) (.const (.int 40))) (.cons (.bi .len (.cons (.loc 1) .nil)) .nil))) .nil))))
 .nil)
 .nil)
 (.cons (.ifs (.cmp .Lt (.bin .Mod (.loc 0) (.const (.int 16))) (.const (.int 9)))
 (.cons (.ret (.lst (.cons (.const (.str [112,117,116])) (.cons (.call 59 (.cons (.loc 3) (.cons (.bi .len (.cons (.loc 1) .nil)) (.cons (.loc 4) .nil)))) .nil))))
 .nil)
 .nil)
 (.cons (.ifs (.cmp .Eq (.bin .Mod (.loc 0) (.const (.int 16))) (.const (.int 9)))
 (.cons (.ret (.lst (.cons (.const (.str [116,97,107,101])) (.cons (.call 60 (.cons (.sub (.loc 3) (.const (.int 40))) (.cons (.loc 2) .nil))) .nil))))
 .nil)
 .nil)
 (.cons (.ifs (.cmp .Lt (.bin .Mod (.loc 0) (.const (.int 16))) (.const (.int 13)))
 (.cons (.assign 5 (.call 25 (.cons (.sub (.loc 3) (.const (.int 39))) (.cons (.loc 4) .nil))))
 (.cons (.ifs (.cmp .Eq (.bin .Mod (.sub (.loc 3) (.const (.int 38))) (.const (.int 7))) (.const (.int 1)))
 (.cons (.assign 5 (.call 58 (.cons (.bin .FloorDiv (.sub (.loc 3) (.const (.int 38))) (.const (.int 7))) .nil)))
 .nil)
 .nil)
 (.cons (.ret (.lst (.cons (.const (.str [98,105,100])) (.cons (.call 60 (.cons (.sub (.loc 3) (.const (.int 40))) (.cons (.bi .len (.cons (.loc 1) .nil)) .nil))) (.cons (.call 60 (.cons (.sub (.loc 3) (.const (.int 45))) (.cons (.loc 2) .nil))) (.cons (.loc 5) .nil))))))
 .nil)))
 .nil)
 (.cons (.ret (.lst (.cons (.const (.str [98,97,99,107])) .nil)))
 .nil))))))))⟩
noncomputable def QC:zr:=⟨3,4,
 (.cons (.assign 3 (.sub (.loc 0) (.const (.int 0))))
 (.cons (.ifs (.cmp .Eq (.loc 3) (.const (.str [99,111,109,101])))
 (.cons (.ifs (.cmp .Eq (.bi .len (.cons (.loc 1) .nil)) (.const (.int 9)))
 (.cons (.ret (.const (.str [84,111,111,77,97,110,121])))
 .nil)
 .nil)
 (.cons (.ret (.call 61 (.cons (.sub (.loc 0) (.const (.int 1))) (.cons (.loc 2) .nil))))
 .nil))
 .nil)
 (.cons (.ifs (.cmp .Eq (.loc 3) (.const (.str [112,117,116])))
 (.cons (.ifs (.cmp .Eq (.loc 2) (.const (.int 40)))
 (.cons (.ret (.const (.str [84,111,111,77,97,110,121])))
 .nil)
 .nil)
 (.cons (.ret (.call 61 (.cons (.sub (.loc 0) (.const (.int 1))) (.cons (.bi .len (.cons (.loc 1) .nil)) .nil))))
 .nil))
 .nil)
 (.cons (.ifs (.and (.or (.cmp .Eq (.loc 3) (.const (.str [108,101,97,118,101]))) (.cmp .Eq (.loc 3) (.const (.str [98,105,100])))) (.un .Not (.call 62 (.cons (.sub (.loc 0) (.const (.int 1))) (.cons (.bi .len (.cons (.loc 1) .nil)) .nil)))))
 (.cons (.ret (.const (.str [78,111,80,101,114,115,111,110])))
 .nil)
 .nil)
 (.cons (.ifs (.and (.cmp .Eq (.loc 3) (.const (.str [116,97,107,101]))) (.un .Not (.call 62 (.cons (.sub (.loc 0) (.const (.int 1))) (.cons (.loc 2) .nil)))))
 (.cons (.ret (.const (.str [78,111,71,111,111,100])))
 .nil)
 .nil)
 (.cons (.ifs (.and (.cmp .Eq (.loc 3) (.const (.str [98,105,100]))) (.un .Not (.call 62 (.cons (.sub (.loc 0) (.const (.int 2))) (.cons (.loc 2) .nil)))))
 (.cons (.ret (.const (.str [78,111,71,111,111,100])))
 .nil)
 .nil)
 (.cons (.ifs (.and (.cmp .Eq (.loc 3) (.const (.str [98,105,100]))) (.un .Not (.call 35 (.cons (.sub (.loc 0) (.const (.int 3))) .nil))))
 (.cons (.ret (.const (.str [66,97,100,66,105,100])))
 .nil)
 .nil)
 (.cons (.ret (.const (.str [])))
 .nil))))))))⟩
noncomputable def wo:zr:=⟨2,8,
 (.cons (.assign 2 (.sub (.loc 0) (.const (.int 0))))
 (.cons (.ifs (.cmp .Eq (.loc 2) (.const (.str [99,111,109,101])))
 (.cons (.ret (.bin .Add (.loc 1) (.lst (.cons (.bi .list (.cons (.sub (.loc 0) (.const (.int 1))) .nil)) .nil))))
 .nil)
 .nil)
 (.cons (.ifs (.cmp .Eq (.loc 2) (.const (.str [108,101,97,118,101])))
 (.cons (.ret (.comp (.sub (.loc 1) (.loc 4)) (.loc 4) (.irange (.bi .len (.cons (.loc 1) .nil))) (.cmp .NotEq (.loc 4) (.sub (.loc 0) (.const (.int 1))))))
 .nil)
 .nil)
 (.cons (.ifs (.cmp .Eq (.loc 2) (.const (.str [112,117,116])))
 (.cons (.ret (.comp (.bin .Add (.sub (.loc 1) (.loc 5)) (.lst (.cons (.sub (.sub (.loc 0) (.const (.int 1))) (.loc 5)) .nil))) (.loc 5) (.irange (.bi .len (.cons (.loc 1) .nil))) (.const (.bool true))))
 .nil)
 .nil)
 (.cons (.ifs (.cmp .Eq (.loc 2) (.const (.str [116,97,107,101])))
 (.cons (.ret (.comp (.bin .Add (.slice (.loc 6) .nil (.cons (.sub (.loc 0) (.const (.int 1))) .nil)) (.slice (.loc 6) (.cons (.bin .Add (.sub (.loc 0) (.const (.int 1))) (.const (.int 1))) .nil) .nil)) (.loc 6) (.iobj (.loc 1)) (.const (.bool true))))
 .nil)
 .nil)
 (.cons (.assign 3 (.comp (.bi .list (.cons (.loc 7) .nil)) (.loc 7) (.iobj (.loc 1)) (.const (.bool true))))
 (.cons (.asub (.sub (.loc 3) (.sub (.loc 0) (.const (.int 1)))) (.sub (.loc 0) (.const (.int 2))) (.sub (.loc 0) (.const (.int 3))))
 (.cons (.ret (.loc 3))
 .nil))))))))⟩
noncomputable def kO:zr:=⟨2,2,
 (.cons (.ifs (.cmp .Eq (.sub (.loc 1) (.const (.int 0))) (.const (.str [99,111,109,101])))
 (.cons (.ret (.mcall 83 (.loc 0) (.cons (.sub (.loc 1) (.const (.int 1))) .nil)))
 .nil)
 .nil)
 (.cons (.ifs (.cmp .Eq (.sub (.loc 1) (.const (.int 0))) (.const (.str [108,101,97,118,101])))
 (.cons (.ret (.mcall 84 (.loc 0) (.cons (.sub (.loc 1) (.const (.int 1))) .nil)))
 .nil)
 .nil)
 (.cons (.ifs (.cmp .Eq (.sub (.loc 1) (.const (.int 0))) (.const (.str [112,117,116])))
 (.cons (.ret (.mcall 85 (.loc 0) (.cons (.sub (.loc 1) (.const (.int 1))) .nil)))
 .nil)
 .nil)
 (.cons (.ifs (.cmp .Eq (.sub (.loc 1) (.const (.int 0))) (.const (.str [116,97,107,101])))
 (.cons (.ret (.mcall 86 (.loc 0) (.cons (.sub (.loc 1) (.const (.int 1))) .nil)))
 .nil)
 .nil)
 (.cons (.ifs (.cmp .Eq (.sub (.loc 1) (.const (.int 0))) (.const (.str [98,105,100])))
 (.cons (.ret (.mcall 87 (.loc 0) (.cons (.sub (.loc 1) (.const (.int 1))) (.cons (.sub (.loc 1) (.const (.int 2))) (.cons (.sub (.loc 1) (.const (.int 3))) .nil)))))
 .nil)
 .nil)
 (.cons (.ret (.mcall 88 (.loc 0) .nil))
 .nil))))))⟩
noncomputable def qS:zr:=⟨2,2,
 (.cons (.tryx (.cons (.ret (.call 65 (.cons (.loc 0) (.cons (.loc 1) .nil))))
 .nil) [(2,false,(.str [84,111,111,77,97,110,121])),(3,false,(.str [85,110,101,118,101,110])),(4,false,(.str [66,97,100,66,105,100])),(6,false,(.str [78,111,80,101,114,115,111,110])),(7,false,(.str [78,111,71,111,111,100]))])
 .nil)⟩
noncomputable def qy:zr:=⟨2,2,
 (.cons (.tryx (.cons (.ifs (.loc 1)
 (.cons (.ret (.mcall 91 (.loc 0) .nil))
 .nil)
 .nil)
 (.cons (.ret (.mcall 90 (.loc 0) .nil))
 .nil)) [(2,false,(.str [84,111,111,77,97,110,121])),(1,false,(.str [78,111,80,101,111,112,108,101]))])
 .nil)⟩
noncomputable def vw:zr:=⟨2,10,
 (.cons (.assign 2 (.comp (.lst .nil) (.loc 7) (.iobj (.loc 0)) (.const (.bool true))))
 (.cons (.fors (.loc 3) (.irange (.loc 1))
 (.cons (.assign 4 (.const (.int 0)))
 (.cons (.fors (.loc 5) (.irange (.bi .len (.cons (.loc 0) .nil)))
 (.cons (.ifs (.cmp .Gt (.sub (.sub (.loc 0) (.loc 5)) (.loc 3)) (.sub (.sub (.loc 0) (.loc 4)) (.loc 3)))
 (.cons (.assign 4 (.loc 5))
 .nil)
 .nil)
 .nil))
 (.cons (.expr (.meth .append (.sub (.loc 2) (.loc 4)) (.cons (.loc 3) .nil)))
 .nil))))
 (.cons (.assign 6 (.comp (.call 27 (.cons (.sub (.loc 0) (.loc 8)) (.cons (.sub (.loc 2) (.loc 8)) .nil))) (.loc 8) (.irange (.bi .len (.cons (.loc 0) .nil))) (.const (.bool true))))
 (.cons (.ret (.tup (.cons (.loc 2) (.cons (.comp (.bin .Sub (.bin .Mult (.loc 9) (.bi .len (.cons (.loc 0) .nil))) (.bi .sum (.cons (.loc 6) .nil))) (.loc 9) (.iobj (.loc 6)) (.const (.bool true))) .nil))))
 .nil))))⟩
noncomputable def j4:zr:=⟨4,10,
 (.cons (.assign 4 (.call 71 (.cons (.loc 0) (.cons (.loc 3) .nil))))
 (.cons (.ifs (.cmp .Eq (.loc 1) (.lst .nil))
 (.cons (.ret (.cmp .Eq (.loc 4) (.const (.str [78,111,80,101,111,112,108,101]))))
 .nil)
 .nil)
 (.cons (.ifs (.and (.loc 3) (.cmp .Gt (.loc 2) (.bi .len (.cons (.loc 1) .nil))))
 (.cons (.ret (.cmp .Eq (.loc 4) (.const (.str [84,111,111,77,97,110,121]))))
 .nil)
 .nil)
 (.cons (.ifs (.or (.un .Not (.call 33 (.cons (.loc 4) (.cons (.bi .len (.cons (.loc 1) .nil)) (.cons (.loc 2) .nil))))) (.call 34 (.cons (.loc 1) (.cons (.sub (.loc 4) (.const (.int 0))) (.cons (.sub (.loc 4) (.const (.int 1))) .nil)))))
 (.cons (.ret (.const (.bool false)))
 .nil)
 .nil)
 (.cons (.ifs (.and (.un .Not (.loc 3)) (.cmp .NotEq (.loc 4) (.call 72 (.cons (.loc 1) (.cons (.loc 2) .nil)))))
 (.cons (.ret (.const (.bool false)))
 .nil)
 .nil)
 (.cons (.ifs (.and (.loc 3) (.cmp .NotEq (.loc 4) (.call 14 (.cons (.comp (.bi .list (.cons (.loc 7) .nil)) (.loc 7) (.iobj (.loc 1)) (.const (.bool true))) .nil))))
 (.cons (.ret (.const (.bool false)))
 .nil)
 .nil)
 (.cons (.forp 5 4 (.and (.loc 3) (.cmp .Gt (.bi .len (.cons (.loc 5) .nil)) (.const (.int 1)))) (.bool false))
 (.cons (.assign 6 (.comp (.bi .len (.cons (.loc 8) .nil)) (.loc 8) (.iobj (.sub (.loc 4) (.const (.int 0)))) (.const (.bool true))))
 (.cons (.fora 5 4 (.bi .len (.cons (.loc 1) .nil)))
 (.cons (.asub (.sub (.loc 4) (.const (.int 1))) (.const (.int 0)) (.bin .Add (.sub (.sub (.loc 4) (.const (.int 1))) (.const (.int 0))) (.const (.int 1))))
 (.cons (.ret (.cmp .Eq (.loc 6) (.comp (.bin .Sub (.bi .len (.cons (.loc 9) .nil)) (.const (.int 1))) (.loc 9) (.iobj (.sub (.loc 4) (.const (.int 0)))) (.const (.bool true)))))
 .nil)))))))))))⟩
noncomputable def qK:zr:=⟨1,6,
 (.cons (.assign 1 (.newT 79))
 (.cons (.assign 2 (.lst (.cons (.lst (.cons (.bin .Mod (.loc 0) (.const (.int 3))) (.cons (.bin .Mod (.bin .FloorDiv (.loc 0) (.const (.int 3))) (.const (.int 3))) .nil))) (.cons (.lst (.cons (.bin .Mod (.bin .FloorDiv (.loc 0) (.const (.int 9))) (.const (.int 3))) (.cons (.bin .Mod (.bin .FloorDiv (.loc 0) (.const (.int 27))) (.const (.int 3))) .nil))) .nil))))
 (.cons (.assign 3 (.lst (.cons (.call 71 (.cons (.loc 1) (.cons (.const (.bool true)) .nil))) (.cons (.call 71 (.cons (.loc 1) (.cons (.const (.bool false)) .nil))) .nil))))
 (.cons (.expr (.mcall 85 (.loc 1) (.cons (.lst .nil) .nil)))
 (.cons (.expr (.mcall 85 (.loc 1) (.cons (.lst .nil) .nil)))
 (.cons (.assign 4 (.slice (.sub (.loc 2) (.const (.int 0))) .nil (.cons (.const (.int 1)) .nil)))
 (.cons (.assign 3 (.bin .Add (.loc 3) (.lst (.cons (.call 71 (.cons (.loc 1) (.cons (.const (.bool true)) .nil))) (.cons (.call 31 (.cons (.loc 1) (.cons (.lst (.cons (.const (.str [99,111,109,101])) (.cons (.loc 4) .nil))) .nil))) .nil)))))
 (.cons (.expr (.mcall 86 (.loc 1) (.cons (.const (.int 0)) .nil)))
 (.cons (.expr (.mcall 83 (.loc 1) (.cons (.loc 4) .nil)))
 (.cons (.expr (.mcall 88 (.loc 1) .nil))
 (.cons (.expr (.mcall 88 (.loc 1) .nil))
 (.cons (.expr (.meth .append (.loc 4) (.cons (.sub (.sub (.loc 2) (.const (.int 0))) (.const (.int 1))) .nil)))
 (.cons (.expr (.mcall 83 (.loc 1) (.cons (.loc 4) .nil)))
 (.cons (.assign 3 (.bin .Add (.loc 3) (.lst (.cons (.call 71 (.cons (.loc 1) (.cons (.const (.bool true)) .nil))) .nil))))
 (.cons (.ifs (.cmp .NotEq (.loc 3) (.lst (.cons (.const (.str [78,111,80,101,111,112,108,101])) (.cons (.const (.str [78,111,80,101,111,112,108,101])) (.cons (.const (.str [78,111,80,101,111,112,108,101])) (.cons (.const (.str [85,110,101,118,101,110])) (.cons (.const (.str [84,111,111,77,97,110,121])) .nil)))))))
 (.cons (.ret (.const (.bool false)))
 .nil)
 .nil)
 (.cons (.expr (.mcall 83 (.loc 1) (.cons (.sub (.loc 2) (.const (.int 1))) .nil)))
 (.cons (.ifs (.or (.cmp .NotEq (.mcall 91 (.loc 1) .nil) (.call 14 (.cons (.loc 2) .nil))) (.cmp .NotEq (.mcall 90 (.loc 1) .nil) (.call 72 (.cons (.loc 2) (.cons (.const (.int 2)) .nil)))))
 (.cons (.ret (.const (.bool false)))
 .nil)
 .nil)
 (.cons (.assign 5 (.lst (.cons (.const (.int 1)) .nil)))
 (.cons (.ifs (.cmp .NotEq (.call 31 (.cons (.loc 1) (.cons (.lst (.cons (.const (.str [112,117,116])) (.cons (.loc 5) .nil))) .nil))) (.const (.str [85,110,101,118,101,110])))
 (.cons (.ret (.const (.bool false)))
 .nil)
 .nil)
 (.cons (.expr (.mcall 84 (.loc 1) (.cons (.const (.int 1)) .nil)))
 (.cons (.expr (.mcall 85 (.loc 1) (.cons (.loc 5) .nil)))
 (.cons (.expr (.mcall 88 (.loc 1) .nil))
 (.cons (.expr (.mcall 88 (.loc 1) .nil))
 (.cons (.expr (.meth .append (.loc 5) (.cons (.const (.int 2)) .nil)))
 (.cons (.expr (.mcall 85 (.loc 1) (.cons (.loc 5) .nil)))
 (.cons (.expr (.mcall 88 (.loc 1) .nil))
 (.cons (.expr (.mcall 84 (.loc 1) (.cons (.const (.int 0)) .nil)))
 (.cons (.ifs (.cmp .NotEq (.call 71 (.cons (.loc 1) (.cons (.const (.bool true)) .nil))) (.const (.str [84,111,111,77,97,110,121])))
 (.cons (.ret (.const (.bool false)))
 .nil)
 .nil)
 (.cons (.expr (.mcall 88 (.loc 1) .nil))
 (.cons (.ret (.cmp .Eq (.mcall 91 (.loc 1) .nil) (.call 14 (.cons (.loc 2) .nil))))
 .nil))))))))))))))))))))))))))))))⟩
noncomputable def uA:zr:=⟨4,5,
 (.cons (.ifs (.cmp .Eq (.loc 1) (.lst .nil))
 (.cons (.ret (.const (.bool true)))
 .nil)
 .nil)
 (.cons (.expr (.meth .append (.loc 3) (.cons (.tup (.cons (.mcall 90 (.loc 0) .nil) (.cons (.call 72 (.cons (.loc 1) (.cons (.loc 2) .nil))) .nil))) .nil)))
 (.cons (.ifs (.and (.cmp .Eq (.bin .Mod (.bi .len (.cons (.loc 3) .nil)) (.const (.int 8))) (.const (.int 1))) (.cmp .LtE (.loc 2) (.bi .len (.cons (.loc 1) .nil))))
 (.cons (.expr (.meth .append (.loc 3) (.cons (.tup (.cons (.mcall 91 (.loc 0) .nil) (.cons (.call 14 (.cons (.comp (.bi .list (.cons (.loc 4) .nil)) (.loc 4) (.iobj (.loc 1)) (.const (.bool true))) .nil)) .nil))) .nil)))
 .nil)
 .nil)
 (.cons (.ret (.and (.cmp .Eq (.sub (.sub (.loc 3) (.un .USub (.const (.int 1)))) (.const (.int 0))) (.sub (.sub (.loc 3) (.un .USub (.const (.int 1)))) (.const (.int 1)))) (.cmp .Eq (.sub (.sub (.loc 3) (.bin .Sub (.bi .len (.cons (.loc 3) .nil)) (.const (.int 2)))) (.const (.int 0))) (.sub (.sub (.loc 3) (.bin .Sub (.bi .len (.cons (.loc 3) .nil)) (.const (.int 2)))) (.const (.int 1))))))
 .nil))))⟩
noncomputable def TY:zr:=⟨1,12,
 (.cons (.assign 1 (.lst .nil))
 (.cons (.assign 2 (.newT 79))
 (.cons (.assign 3 (.call 23 (.cons (.loc 0) (.cons (.const (.int 0)) .nil))))
 (.cons (.assign 4 (.lst (.cons (.lst (.cons (.bin .Mod (.loc 3) (.const (.int 5))) (.cons (.bin .Mod (.bin .FloorDiv (.loc 3) (.const (.int 5))) (.const (.int 5))) .nil))) (.cons (.lst (.cons (.bin .Mod (.bin .FloorDiv (.loc 3) (.const (.int 25))) (.const (.int 5))) (.cons (.bin .Mod (.bin .FloorDiv (.loc 3) (.const (.int 125))) (.const (.int 5))) .nil))) .nil))))
 (.cons (.expr (.mcall 85 (.loc 2) (.cons (.lst .nil) .nil)))
 (.cons (.expr (.mcall 85 (.loc 2) (.cons (.lst .nil) .nil)))
 (.cons (.expr (.mcall 83 (.loc 2) (.cons (.bi .list (.cons (.sub (.loc 4) (.const (.int 0))) .nil)) .nil)))
 (.cons (.expr (.mcall 83 (.loc 2) (.cons (.bi .list (.cons (.sub (.loc 4) (.const (.int 1))) .nil)) .nil)))
 (.cons (.assign 5 (.const (.int 2)))
 (.cons (.assign 6 (.lst .nil))
 (.cons (.fors (.loc 7) (.irange2 (.const (.int 1)) (.bi .len (.cons (.loc 0) .nil)))
 (.cons (.assign 8 (.call 63 (.cons (.sub (.loc 0) (.loc 7)) (.cons (.loc 4) (.cons (.loc 5) .nil)))))
 (.cons (.assign 9 (.call 39 (.cons (.loc 8) (.cons (.loc 4) (.cons (.loc 5) .nil)))))
 (.cons (.ifs (.or (.cmp .NotEq (.sub (.loc 8) (.const (.int 0))) (.const (.str [98,97,99,107]))) (.cmp .NotEq (.loc 6) (.lst .nil)))
 (.cons (.expr (.call 31 (.cons (.loc 2) (.cons (.loc 8) .nil))))
 .nil)
 .nil)
 (.cons (.ifs (.and (.cmp .Eq (.sub (.loc 8) (.const (.int 0))) (.const (.str [98,97,99,107]))) (.cmp .NotEq (.loc 6) (.lst .nil)))
 (.cons (.atup [4,5] (.meth .pop (.loc 6) .nil))
 .nil)
 .nil)
 (.cons (.ifs (.and (.cmp .NotEq (.sub (.loc 8) (.const (.int 0))) (.const (.str [98,97,99,107]))) (.cmp .Eq (.loc 9) (.const (.str []))))
 (.cons (.expr (.meth .append (.loc 6) (.cons (.tup (.cons (.loc 4) (.cons (.loc 5) .nil))) .nil)))
 (.cons (.assign 4 (.call 64 (.cons (.loc 8) (.cons (.loc 4) .nil))))
 (.cons (.assign 5 (.bin .Sub (.bin .Add (.loc 5) (.bi .int (.cons (.cmp .Eq (.sub (.loc 8) (.const (.int 0))) (.const (.str [112,117,116]))) .nil))) (.bi .int (.cons (.cmp .Eq (.sub (.loc 8) (.const (.int 0))) (.const (.str [116,97,107,101]))) .nil))))
 .nil)))
 .nil)
 (.cons (.ifs (.un .Not (.call 75 (.cons (.loc 2) (.cons (.loc 4) (.cons (.loc 5) (.cons (.loc 1) .nil))))))
 (.cons (.ret (.const (.bool false)))
 .nil)
 .nil)
 (.cons (.ifs (.and (.cmp .Eq (.loc 7) (.bin .FloorDiv (.bi .len (.cons (.loc 0) .nil)) (.const (.int 2)))) (.un .Not (.call 73 (.cons (.loc 2) (.cons (.loc 4) (.cons (.loc 5) (.cons (.cmp .Eq (.bin .Mod (.bin .FloorDiv (.loc 3) (.const (.int 625))) (.const (.int 2))) (.const (.int 1))) .nil)))))))
 (.cons (.ret (.const (.bool false)))
 .nil)
 .nil)
 .nil))))))))
 (.cons (.fors (.loc 7) (.irange (.const (.int 4)))
 (.cons (.ifs (.un .Not (.call 73 (.cons (.loc 2) (.cons (.loc 4) (.cons (.loc 5) (.cons (.cmp .Eq (.bin .Mod (.loc 7) (.const (.int 2))) (.const (.int 1))) .nil))))))
 (.cons (.ret (.const (.bool false)))
 .nil)
 .nil)
 .nil))
 (.cons (.ret (.and (.cmp .Eq (.compp (.const (.int 1)) 10 11 (.loc 1) (.cmp .NotEq (.loc 10) (.loc 11))) (.lst .nil)) (.call 74 (.cons (.loc 3) .nil))))
 .nil)))))))))))))⟩
noncomputable def Jr:zr:=⟨1,1,
 (.cons (.aattr (.loc 0) 0 (.lst .nil))
 (.cons (.aattr (.loc 0) 1 (.const (.int 0)))
 (.cons (.aattr (.loc 0) 2 (.lst .nil))
 .nil)))⟩
noncomputable def uH:zr:=⟨3,3,
 (.cons (.expr (.meth .append (.attr (.loc 0) 2) (.cons (.tup (.cons (.attr (.loc 0) 0) (.cons (.attr (.loc 0) 1) .nil))) .nil)))
 (.cons (.aattr (.loc 0) 0 (.loc 1))
 (.cons (.aattr (.loc 0) 1 (.loc 2))
 .nil)))⟩
noncomputable def ke:zr:=⟨2,2,
 (.cons (.ifs (.un .Not (.call 2 (.cons (.loc 1) (.cons (.bi .len (.cons (.attr (.loc 0) 0) .nil)) .nil))))
 (.cons (.raise 6)
 .nil)
 .nil)
 .nil)⟩
noncomputable def vx:zr:=⟨2,2,
 (.cons (.ifs (.un .Not (.call 2 (.cons (.loc 1) (.cons (.attr (.loc 0) 1) .nil))))
 (.cons (.raise 7)
 .nil)
 .nil)
 .nil)⟩
noncomputable def kP:zr:=⟨2,2,
 (.cons (.ifs (.cmp .GtE (.bi .len (.cons (.attr (.loc 0) 0) .nil)) (.gconst (.int 9)))
 (.cons (.raise 2)
 .nil)
 .nil)
 (.cons (.expr (.call 4 (.cons (.loc 1) (.cons (.attr (.loc 0) 1) .nil))))
 (.cons (.expr (.mcall 80 (.loc 0) (.cons (.bin .Add (.mcall 89 (.loc 0) .nil) (.lst (.cons (.bi .list (.cons (.loc 1) .nil)) .nil))) (.cons (.attr (.loc 0) 1) .nil))))
 .nil)))⟩
noncomputable def wQ:zr:=⟨2,3,
 (.cons (.expr (.mcall 81 (.loc 0) (.cons (.loc 1) .nil)))
 (.cons (.assign 2 (.mcall 89 (.loc 0) .nil))
 (.cons (.expr (.meth .pop (.loc 2) (.cons (.loc 1) .nil)))
 (.cons (.expr (.mcall 80 (.loc 0) (.cons (.loc 2) (.cons (.attr (.loc 0) 1) .nil))))
 .nil))))⟩
noncomputable def wp:zr:=⟨2,5,
 (.cons (.ifs (.cmp .GtE (.attr (.loc 0) 1) (.gconst (.int 40)))
 (.cons (.raise 2)
 .nil)
 .nil)
 (.cons (.expr (.call 4 (.cons (.loc 1) (.cons (.bi .len (.cons (.attr (.loc 0) 0) .nil)) .nil))))
 (.cons (.assign 2 (.compq (.bin .Add (.bi .list (.cons (.loc 3) .nil)) (.lst (.cons (.loc 4) .nil))) 3 4 (.attr (.loc 0) 0) (.loc 1)))
 (.cons (.expr (.mcall 80 (.loc 0) (.cons (.loc 2) (.cons (.bin .Add (.attr (.loc 0) 1) (.const (.int 1))) .nil))))
 .nil))))⟩
noncomputable def uG:zr:=⟨2,4,
 (.cons (.expr (.mcall 82 (.loc 0) (.cons (.loc 1) .nil)))
 (.cons (.assign 2 (.comp (.bin .Add (.bi .list (.cons (.slice (.loc 3) .nil (.cons (.loc 1) .nil)) .nil)) (.bi .list (.cons (.slice (.loc 3) (.cons (.bin .Add (.loc 1) (.const (.int 1))) .nil) .nil) .nil))) (.loc 3) (.iobj (.attr (.loc 0) 0)) (.const (.bool true))))
 (.cons (.expr (.mcall 80 (.loc 0) (.cons (.loc 2) (.cons (.bin .Sub (.attr (.loc 0) 1) (.const (.int 1))) .nil))))
 .nil)))⟩
noncomputable def ve:zr:=⟨4,5,
 (.cons (.expr (.mcall 81 (.loc 0) (.cons (.loc 1) .nil)))
 (.cons (.expr (.mcall 82 (.loc 0) (.cons (.loc 2) .nil)))
 (.cons (.expr (.call 3 (.cons (.lst (.cons (.loc 3) .nil)) .nil)))
 (.cons (.assign 4 (.mcall 89 (.loc 0) .nil))
 (.cons (.asub (.sub (.loc 4) (.loc 1)) (.loc 2) (.loc 3))
 (.cons (.expr (.mcall 80 (.loc 0) (.cons (.loc 4) (.cons (.attr (.loc 0) 1) .nil))))
 .nil))))))⟩
noncomputable def Ks:zr:=⟨1,2,
 (.cons (.ifs (.cmp .Eq (.bi .len (.cons (.attr (.loc 0) 2) .nil)) (.const (.int 0)))
 (.cons (.ret (.const (.bool false)))
 .nil)
 .nil)
 (.cons (.assign 1 (.meth .pop (.attr (.loc 0) 2) .nil))
 (.cons (.aattr (.loc 0) 0 (.sub (.loc 1) (.const (.int 0))))
 (.cons (.aattr (.loc 0) 1 (.sub (.loc 1) (.const (.int 1))))
 (.cons (.ret (.const (.bool true)))
 .nil)))))⟩
noncomputable def Kr:zr:=⟨1,2,
 (.cons (.ret (.comp (.bi .list (.cons (.loc 1) .nil)) (.loc 1) (.iobj (.attr (.loc 0) 0)) (.const (.bool true))))
 .nil)⟩
noncomputable def wr:zr:=⟨1,1,
 (.cons (.ret (.call 13 (.cons (.mcall 89 (.loc 0) .nil) .nil)))
 .nil)⟩
noncomputable def wq:zr:=⟨1,1,
 (.cons (.ret (.call 14 (.cons (.mcall 89 (.loc 0) .nil) .nil)))
 .nil)⟩
noncomputable def tab:List (Nat × zr):=[(1,xn),(2,uD),(3,qd),(4,yZ),(5,Vl),(0,WC),(12,Kp),(13,vC),(15,WD),(16,uE),(17,Kq),(14,j6),(22,xj),(23,vB),(24,xm),(25,QD),(27,xh),(28,vu),(32,xl),(33,uC),(34,wm),(58,xg),(59,uz),(60,xk),(35,wt),(61,kM),(62,kN),(63,uB),(39,QC),(64,wo),(65,kO),(31,qS),(71,qy),(72,vw),(73,j4),(74,qK),(75,uA),(78,TY),(79,Jr),(80,uH),(81,ke),(82,vx),(83,kP),(84,wQ),(85,wp),(86,uG),(87,ve),(88,Ks),(89,Kr),(90,wr),(91,wq)]
noncomputable def F (f:Nat):Option zr:=tab.lookup f
end Mine
namespace Mine
noncomputable def sgT:List (Nat × Sg):=[
 (0,⟨[.i,.b],[.b],.i,0⟩),(1,⟨[.b],[],.i,0⟩),(2,⟨[.b,.i],[],.i,1⟩),(3,⟨[.b],[.b],.i,1⟩),(4,⟨[.b,.i],[],.i,2⟩),(5,⟨[.b],[.b],.i,3⟩),
 (12,⟨[.i,.i],[],.i,0⟩),(13,⟨[.i],[.L (.L .i)],.D,4⟩),(14,⟨[.i],[.i,.i,.i,.i,.i,.i,.L (.L .i)],.D,4⟩),
 (15,⟨[.b,.L .i,.L .i,.b],[.i,.i,.L .i,.L .i,.L .i],.i,0⟩),(16,⟨[.i],[.i,.L .i,.L .i,.L .i,.i,.i,.i,.L .i],.i,1⟩),(17,⟨[.i,.i],[.i,.L .i],.i,0⟩),
 (22,⟨[.b],[],.i,0⟩),(23,⟨[.i,.i],[],.i,0⟩),(24,⟨[.i,.i],[.L .i],.i,0⟩),(25,⟨[.i,.i],[],.i,0⟩),(27,⟨[.b,.b],[.i,.b],.i,0⟩),(28,⟨[.b,.i],[.b],.i,1⟩),
 (32,⟨[.b,.i,.i],[.L .i,.b,.b],.i,1⟩),(33,⟨[.b,.i,.i],[],.i,2⟩),(34,⟨[.b,.b,.b],[],.i,1⟩),(58,⟨[.i],[],.i,0⟩),(59,⟨[.i,.i,.i],[.L .i],.i,1⟩),(60,⟨[.i,.i],[],.i,0⟩),
 (35,⟨[.b],[],.i,1⟩),(61,⟨[.b,.i],[.b],.i,2⟩),(62,⟨[.b,.i],[],.i,1⟩),(63,⟨[.i,.b,.i],[],.i,2⟩),(39,⟨[.b,.b,.i],[],.i,3⟩),(64,⟨[.b,.i],[.i,.L (.L .i)],.i,0⟩),
 (65,⟨[.T,.b],[],.i,5⟩),(31,⟨[.T,.b],[],.i,6⟩),(71,⟨[.b,.i],[],.D,6⟩),(72,⟨[.i,.i],[.L (.L .i)],.i,1⟩),(73,⟨[.b,.i,.i,.i],[.D,.u,.i,.i,.u,.u],.i,7⟩),(74,⟨[.i],[.T,.i,.i,.L .i,.L .i],.i,8⟩),(75,⟨[.b,.i,.i,.L .i],[],.i,7⟩),(78,⟨[.i],[.L .i,.T,.i,.i,.i,.L .i],.i,9⟩),
 (79,⟨[.T],[],.i,0⟩),(80,⟨[.T,.i,.i],[],.i,0⟩),(81,⟨[.b,.b],[],.i,2⟩),(82,⟨[.b,.b],[],.i,2⟩),(83,⟨[.T,.b],[],.i,3⟩),(84,⟨[.T,.b],[.L .i],.i,3⟩),(85,⟨[.T,.b],[.i,.i,.b],.i,3⟩),(86,⟨[.T,.b],[],.i,3⟩),(87,⟨[.T,.b,.b,.b],[.L (.L .i)],.i,3⟩),(88,⟨[.T],[],.i,0⟩),
 (89,⟨[.b],[.b],.L (.L .i),0⟩),(90,⟨[.b],[],.D,5⟩),(91,⟨[.b],[],.D,5⟩)]
noncomputable def sg (f:Nat):Sg:=(sgT.lookup f).getD ⟨[],[],.i,100⟩
noncomputable def vc (f:Nat) (ts:List Tr):VR Tr:=vcN F sg 100 ((sg f).rk+1) f ts
end Mine
namespace Mine
open PySem
noncomputable def nm:Nat->List Str
 | 1=>["thing"]
 | 2=>["thing","size"]
 | 3=>["row","amount"]
 | 4=>["row","size"]
 | 5=>["bids","row"]
 | 0=>["row","heap"]
 | 12=>["bids","good","best","person"]
 | 13=>["bids","heaps","good","worths","whole"]
 | 15=>["costs","raised","lowered","owner","size","place","least","came","seen","person","nearest","other","left","step"]
 | 16=>["costs","size","raised","lowered","owner","person","place","came","places"]
 | 17=>["worths","places","size","paid","turn","person","other","more"]
 | 14=>["bids","people","goods","worths","places","paid","whole","heaps","place"]
 | 22=>["_law_found"]
 | 23=>["_law_script","_law_k"]
 | 24=>["_law_cell_here","_law_many","_law_found","_law_k"]
 | 25=>["_law_cell_here","_law_kind"]
 | 27=>["_law_row","_law_heap","_law_total","_law_good"]
 | 28=>["_law_found","_law_many","_law_one"]
 | 32=>["_law_found","_law_people","_law_goods","_law_seen","_law_heap","_law_good"]
 | 33=>["_law_found","_law_people","_law_goods"]
 | 34=>["_law_bids","_law_heaps_here","_law_sums","_law_people","_law_i","_law_own","_law_j"]
 | 58=>["_law_cell_here"]
 | 59=>["_law_draws_here","_law_many","_law_kind","_law_line_here"]
 | 60=>["_law_draw","_law_many"]
 | 35=>["_law_one"]
 | 61=>["_law_line_here","_law_many","_law_one"]
 | 62=>["_law_one","_law_many"]
 | 63=>["_law_cell_here","_law_rows","_law_goods","_law_draws_here","_law_kind","_law_amount"]
 | 39=>["_law_deed_here","_law_rows","_law_goods","_law_word"]
 | 64=>["_law_deed_here","_law_rows","_law_word","_law_found"]
 | 65=>["_law_table","_law_deed_here"]
 | 31=>["_law_table","_law_deed_here"]
 | 71=>["_law_table","_law_rooms"]
 | 72=>["_law_rows","_law_goods","_law_heaps_here","_law_good","_law_best","_law_i","_law_worths"]
 | 73=>["_law_table","_law_rows","_law_goods","_law_rooms","_law_found","_law_heap","_law_sizes"]
 | 74=>["_law_first","_law_table","_law_rows","_law_told_here","_law_row","_law_column"]
 | 75=>["_law_table","_law_rows","_law_goods","_law_held_here"]
 | 78=>["_law_script","_law_held_here","_law_table","_law_first","_law_rows","_law_goods","_law_past","_law_k","_law_deed_here","_law_due_here"]
 | 79=>["self"]
 | 80=>["self","bids","goods"]
 | 81=>["self","person"]
 | 82=>["self","good"]
 | 83=>["self","row"]
 | 84=>["self","person","bids"]
 | 85=>["self","column","bids"]
 | 86=>["self","good","bids"]
 | 87=>["self","person","good","amount","bids"]
 | 88=>["self","before"]
 | 89=>["self"]
 | 90=>["self"]
 | 91=>["self"]
 | _=>[]
noncomputable def exs:List Nat:=[1,2,3,4,6,7]
noncomputable abbrev zs (s:String):Str:=Str.ofString s
noncomputable def gm:yd:=[(zs "is_number",.fn 1),
 (zs "is_place",.fn 2),
 (zs "need_bids",.fn 3),
 (zs "need_row",.fn 4),
 (zs "look",.fn 5),
 (zs "worth",.fn 0),
 (zs "winner",.fn 12),
 (zs "in_heaps",.fn 13),
 (zs "reach",.fn 15),
 (zs "cheapest",.fn 16),
 (zs "prices",.fn 17),
 (zs "in_rooms",.fn 14),
 (zs "_law_whole",.fn 22),
 (zs "_law_cell",.fn 23),
 (zs "_law_draws",.fn 24),
 (zs "_law_bid",.fn 25),
 (zs "_law_worth",.fn 27),
 (zs "_law_numbers",.fn 28),
 (zs "_law_heaps",.fn 32),
 (zs "_law_deal",.fn 33),
 (zs "_law_envied",.fn 34),
 (zs "_law_wrong",.fn 58),
 (zs "_law_line",.fn 59),
 (zs "_law_place",.fn 60),
 (zs "_law_fine",.fn 35),
 (zs "_law_line_due",.fn 61),
 (zs "_law_is_place",.fn 62),
 (zs "_law_deed",.fn 63),
 (zs "_law_due",.fn 39),
 (zs "_law_behind",.fn 64),
 (zs "_law_do",.fn 65),
 (zs "_law_told",.fn 31),
 (zs "_law_deal_of",.fn 71),
 (zs "_law_by_bids",.fn 72),
 (zs "_law_fair",.fn 73),
 (zs "_law_made_good",.fn 74),
 (zs "_law_held",.fn 75),
 (zs "law",.fn 78),
 (zs "in_heaps_heaps",.fn 13),
 (zs "in_rooms_rooms",.fn 14),
 (zs "Table",.tab 79),
 (zs "Table.become",.meth 80),
 (zs "Table.need_person",.meth 81),
 (zs "Table.need_good",.meth 82),
 (zs "Table.come",.meth 83),
 (zs "Table.leave",.meth 84),
 (zs "Table.put",.meth 85),
 (zs "Table.take",.meth 86),
 (zs "Table.bid",.meth 87),
 (zs "Table.back",.meth 88),
 (zs "Table.rows",.meth 89),
 (zs "Table.in_heaps",.meth 90),
 (zs "Table.in_rooms",.meth 91),
 (zs "MOST_PEOPLE",.const (.int 9)),
 (zs "MOST_GOODS",.const (.int 40)),
 (zs "MOST_BID",.const (.int 1000000000000)),
 (zs "len",.bi "len"),
 (zs "sum",.bi "sum"),
 (zs "max",.bi "max"),
 (zs "isinstance",.bi "isinstance"),
 (zs "int",.ty "int"),
 (zs "list",.ty "list"),
 (zs "tuple",.ty "tuple"),
 (zs "bool",.ty "bool"),
 (zs "range",.ty "range"),
 (zs "zip",.ty "zip"),
 (zs "NoPeople",.cls 1),
 (zs "TooMany",.cls 2),
 (zs "Uneven",.cls 3),
 (zs "BadBid",.cls 4),
 (zs "NoPerson",.cls 6),
 (zs "NoGood",.cls 7)]
end Mine
namespace Mine
open PySem (Operator UnaryOp CmpOp)
noncomputable def npO (f:Nat):Nat:=(sg f).ps.length
noncomputable def XC (f:Nat):VC:=vcN F sg 100 (sg f).rk
noncomputable def X (f:Nat) (s:zk) (ρ:VS):VR VF:=qD sg (sg f).sh (XC f) (npO f) (sg f).rs 100 s ρ
noncomputable def EP (f:Nat) (e:za) (ρ:VS):Ex Tr:=(zK sg (sg f).sh (XC f) e).E ρ
noncomputable def EX (f:Nat) (e:za) (ρ:VS):VR Tr:=vX sg (sg f).sh (XC f) (npO f) e ρ
structure VW {α:Type} (r:VR α) (P:α->VS->Prop):Prop where
 get:∃ a ρ,r=.ok a ρ/\P a ρ
theorem VW.ok {α:Type} {a:α} {ρ:VS} {P:α->VS->Prop} (p:P a ρ):VW (.ok a ρ) P:=⟨a,ρ,rfl,p⟩
theorem VW.mono {α:Type} {r:VR α} {P Q:α->VS->Prop} (w:VW r P) (k:∀ a ρ,P a ρ->Q a ρ):VW r Q:=let ⟨a,ρ,e,p⟩:=w.get;⟨a,ρ,e,k a ρ p⟩
theorem VW.bind {α β:Type} {r:VR α} {f:α->VS->VR β} {P:α->VS->Prop} {Q:β->VS->Prop} (w:VW r P) (k:∀ a ρ,P a ρ->VW (f a ρ) Q):VW (r.bind f) Q:=by
 obtain ⟨a,ρ,rfl,p⟩:=w.get
 exact k a ρ p
noncomputable def Nr (f:Nat) (r:zk) (Q:VF->VS->Prop) (ρ:VS):Prop:=match r with
 | .nil=>Q .next ρ
 |r=>VW (X f r ρ) Q
noncomputable def Nx (f:Nat) (r:zk) (Q:VF->VS->Prop) (p:VF) (ρ:VS):Prop:=match p with
 | .next=>Nr f r Q ρ
 | .ret t=>Q (.ret t) ρ
theorem Nr.to {f:Nat} {r:zk} {Q:VF->VS->Prop} {ρ:VS} (n:Nr f r Q ρ):VW (X f r ρ) Q:=by
 cases r with
 |nil=>exact .ok n
 | _=>exact n
theorem Nr.of {f:Nat} {r:zk} {Q:VF->VS->Prop} {ρ:VS} (n:VW (X f r ρ) Q):Nr f r Q ρ:=by
 cases r with
 |nil=>obtain ⟨a,ρ',e,p⟩:=n.get;cases (show VR.ok VF.next ρ=.ok a ρ' from e);exact p
 | _=>exact n
theorem yJ {f:Nat} {s r:zk} {ρ:VS} {Q:VF->VS->Prop} (w:VW (X f s ρ) (Nx f r Q)):VW (X f (.cons s r) ρ) Q :=
 VW.bind w fun p ρ q=>match p,q with
  | .next,q=>Nr.to q
  | .ret _,q=>.ok q
noncomputable def int (i:Int):Tr:=.sc (.int i)
noncomputable def bool (b:Bool):Tr:=.sc (.bool b)
section
variable {f:Nat} {ρ:VS} {P:VF->VS->Prop}
theorem zN {op:Operator} {a b:za} {x y t:Tr} (ha:EP f a ρ=.ok x) (hb:EP f b ρ=.ok y) (h:X7 (cls (sg f).sh a) (cls (sg f).sh b) op x y=.ok t):EP f (.bin op a b) ρ=.ok t:=by
 show (EP f a ρ).bind _=_
 rw [ha]
 show (EP f b ρ).bind _=_
 rw [hb];exact h
theorem zJ {op:CmpOp} {a b:za} {x y:Tr} {c:Bool} (ha:EP f a ρ=.ok x) (hb:EP f b ρ=.ok y) (h:ym op x y=some c):EP f (.cmp op a b) ρ=.ok (bool c):=by
 show (EP f a ρ).bind _=_
 rw [ha]
 show (EP f b ρ).bind _=_
 rw [hb]
 show (Ex.opt (ym op x y)).bind _=_
 rw [h];rfl
theorem zB {o i:za} {x y t:Tr} (ha:EP f o ρ=.ok x) (hb:EP f i ρ=.ok y) (h:vz x y=some t):EP f (.sub o i) ρ=.ok t:=by
 show (EP f o ρ).bind _=_
 rw [ha]
 show (EP f i ρ).bind _=_
 rw [hb]
 show Ex.opt (vz x y)=_
 rw [h];rfl
end
noncomputable def yg (n:Nat) (g:Nat->Tr):List Tr:=(List.range n).map g
noncomputable def tA (n:Nat) (g:Nat->Tr):Tr:=.nd .lst (yg n g)
noncomputable def upd {α:Type} (f:Nat->α) (k:Nat) (x:α):Nat->α:=fun j=>if j=k then x else f j
theorem zo {α:Type} {f:Nat->α} {k:Nat} {x:α}:upd f k x k=x:=if_pos rfl
theorem zu {α:Type} {f:Nat->α} {k j:Nat} {x:α} (h:j≠k):upd f k x j=f j:=if_neg h
theorem yu {n:Nat} {g:Nat->Tr}:(yg n g).length=n:=by rw [yg,length_map,length_range]
theorem qA {n k:Nat} {g:Nat->Tr} (h:k<n):(yg n g)[k]?=some (g k):=by rw [yg,getElem?_map,getElem?_range h];rfl
theorem Tf {n k:Nat} {g:Nat->Tr} {x:Tr}:(yg n g).set k x=yg n (upd g k x):=by
 apply ext_getElem?
 intro i
 by_cases q:i<n
 ·rw [qA q]
  by_cases e:k=i
  ·subst e;rw [getElem?_set_self (by rw [yu];exact q),zo]
  ·rw [getElem?_set_ne e,qA q,zu (Ne.symm e)]
 ·rw [getElem?_eq_none (by rw [length_set,yu];(exact V9 q)),getElem?_eq_none (by rw [yu];(exact V9 q))]
theorem JE {n:Nat} {t:Tr}:(List.replicate n [t]).flatten=yg n fun _=>t:=by
 rw [flatten_replicate_singleton]
 apply ext_getElem?
 intro i
 by_cases q:i<n
 ·rw [qA q,List.getElem?_replicate,if_pos q]
 ·rw [getElem?_eq_none (by rw [length_replicate];(exact V9 q)),getElem?_eq_none (by rw [yu];(exact V9 q))]
theorem ju {k n:Nat} (h:k<n):yX (k:Int) n=some k:=by
 unfold yX;rw [if_pos (natCast_nonneg k),if_pos (ofNat_lt.mpr h)];rfl
theorem zG {n k:Nat} {g:Nat->Tr} (h:k<n):vz (tA n g) (int k)=some (g k):=by
 show ((yX (k:Int) (yg n g).length).bind fun j=>(yg n g)[j]?)=_
 rw [yu,ju h];exact qA h
theorem Jh {ρ:VS} {x:Nat} {u t:Tr} (hx:ρ[x]?=some (some u)):ρ.modify x (Option.map (vV [] t))=ρ.set x (some t):=by
 apply ext_getElem?
 intro j
 by_cases q:x=j
 ·subst q;rw [getElem?_modify_eq,hx,getElem?_set_self (List.getElem?_eq_some_iff.mp hx).1];rfl
 ·rw [getElem?_modify_ne _ _ q,getElem?_set_ne q]
theorem kq {f x:Nat} {i e:za} {r:zk} {ρ:VS} {t:Tr} {n k:Nat} {g:Nat->Tr} {P:VF->VS->Prop} (he:EP f e ρ=.ok t) (hx:ρ[x]?=some (some (tA n g))) (hi:EP f i ρ=.ok (int k)) (hk:k<n)
  (lf:((sg f).sh.getD x .i).leaf []=true) (st:zM (cls (sg f).sh e) t=true) (q:Nr f r P (ρ.set x (some (tA n (upd g k t))))):VW (X f (.cons (.asub (.loc x) i e) r) ρ) P:=by
 refine yJ ?_
 show VW (((EP f e ρ).on ρ).bind _) _
 rw [he]
 show VW ((((yx x ρ).bind fun _=>.ok (x,[])).on ρ).bind _) _
 rw [show yx x ρ=.ok (tA n g) from by unfold yx;rw [hx]]
 show VW (((EP f i ρ).on ρ).bind _) _
 rw [hi]
 show VW (VR.opt (yB (sg f).sh (x,[]) ρ) _) _
 rw [show yB (sg f).sh (x,[]) ρ=some (yg n g) from by unfold yB;rw [lf,hx];rfl]
 show VW (VR.opt (K3 (cls (sg f).sh e) (yg n g) (int k) t) _) _
 rw [show K3 (cls (sg f).sh e) (yg n g) (int k) t=some (yg n (upd g k t)) from by
  unfold K3
  rw [st]
  show (if 0<=(k:Int)/\(k:Int)<(yg n g).length then some ((yg n g).set (k:Int).toNat t) else none)=_
  rw [yu,if_pos ⟨natCast_nonneg k,ofNat_lt.mpr hk⟩,toNat_natCast,Tf]]
 refine VW.ok ?_
 show Nr f r P (ρ.modify x (Option.map (vV [] (.nd .lst (yg n (upd g k t))))))
 rw [Jh hx];exact q
theorem qR {g:Tr->VS->VR VF} {Q:VF->VS->Prop} (I:Nat->VS->Prop) {n:Nat} (turn:∀ m ρ,m<n->I m ρ->VW (g (int m) ρ) fun p ρ'=>match p with | .next=>I (m+1) ρ' | .ret t=>Q (.ret t) ρ') (fin:∀ ρ,I n ρ->Q .next ρ) :
  ∀ (k m:Nat) (ρ:VS),m+k=n->I m ρ->VW (jF g (yh m k) ρ) Q
 | 0,m,ρ,e,i=>.ok (fin ρ (by rw [<- e];exact i))
 |k+1,m,ρ,e,i=>by
  show VW ((g (int m) ρ).bind _) Q
  refine VW.bind (turn m ρ (by exact YV e) i) fun p ρ' q=>?_
  cases p with
  |next =>
   have:=qR I turn fin k (m+1) ρ' (by exact YU e) q
   exact this
  |ret t=>exact .ok q
theorem wC {c:VS->VR Bool} {g:VS->VR VF} {Q:VF->VS->Prop} (I:Nat->VS->Prop) (turn:∀ k ρ,I k ρ->VW (c ρ) fun b ρ1=>if b=true then VW (g ρ1) (fun p ρ2=>match p with | .next=>∃ k',k'<k/\I k' ρ2 | .ret t=>Q (.ret t) ρ2) else Q .next ρ1) :
  ∀ (w k:Nat) (ρ:VS),k<w->I k ρ->VW (jU c g w ρ) Q
 | 0,k,ρ,hk,i=>absurd hk (Nat.not_lt_zero _)
 |w+1,k,ρ,hk,i=>by
  refine VW.bind (turn k ρ i) fun b ρ1 q=>?_
  cases b with
  |false=>exact .ok q
  |true =>
   refine VW.bind (show VW (g ρ1) _ from q) fun p ρ2 z=>?_
   cases p with
   |next=>obtain ⟨k',hk',i'⟩:=z;exact wC I turn w k' ρ2 (by exact Dp hk hk') i'
   |ret t=>exact .ok z
section
variable {f:Nat} {ρ:VS} {Q:VF->VS->Prop}
theorem x_p {e:za} {t:Tr} (h:EP f e ρ=.ok t) (hp:EX f e ρ=(EP f e ρ).on ρ):EX f e ρ=.ok t ρ:=by rw [hp,h];rfl
theorem w7 {a:za} {t:Tr} {b:Bool} (h:EX f a ρ=.ok t ρ) (ht:zd t=some b):EX f (.un .Not a) ρ=.ok (bool !b) ρ:=by
 show (EX f a ρ).bind _=_
 rw [h]
 show (xz t).on ρ=_
 unfold xz;rw [ht];rfl
theorem yk {op:CmpOp} {a b:za} {x y:Tr} {c:Bool} (ha:EX f a ρ=.ok x ρ) (hb:EP f b ρ=.ok y) (h:ym op x y=some c):EX f (.cmp op a b) ρ=.ok (bool c) ρ:=by
 show (EX f a ρ).bind _=_
 rw [ha]
 show ((EP f b ρ).bind _).on ρ=_
 rw [hb]
 show ((Ex.opt (ym op x y)).bind _).on ρ=_
 rw [h];rfl
theorem Ky {a b:za} {t:Tr} (h:EP f a ρ=.ok t) (ht:zd t=some true):EP f (.or a b) ρ=.ok t:=by
 show (EP f a ρ).bind _=_
 rw [h]
 show (Ex.opt (zd t)).bind _=_
 rw [ht];rfl
theorem jO {a b:za} {t u:Tr} (h:EP f a ρ=.ok t) (ht:zd t=some false) (h2:EP f b ρ=.ok u):EP f (.or a b) ρ=.ok u:=by
 show (EP f a ρ).bind _=_
 rw [h]
 show (Ex.opt (zd t)).bind _=_
 rw [ht];exact h2
theorem zq {c:za} {a e r:zk} {t:Tr} (b:Bool) (hc:EX f c ρ=.ok t ρ) (ht:zd t=some b) (k:VW (X f (cond b a e) ρ) (Nx f r Q)):VW (X f (.cons (.ifs c a e) r) ρ) Q:=by
 refine yJ ?_
 show VW (((EX f c ρ).bind fun t ρ=>(Ex.opt (zd t)).on ρ).bind _) _
 rw [hc]
 show VW (((Ex.opt (zd t)).on ρ).bind _) _
 rw [ht]
 cases b with
 |true=>exact k
 |false=>exact k
theorem yn {x:Nat} {e:za} {r:zk} {t:Tr} (h:EP f e ρ=.ok t) (hp:EX f e ρ=(EP f e ρ).on ρ) (hs:(sg f).sh.getD x .i=.i) (st:zM (cls (sg f).sh e) t=true) (k:Nr f r Q (ρ.set x (some t))):VW (X f (.cons (.assign x e) r) ρ) Q:=by
 refine yJ ?_
 show VW (match (sg f).sh.getD x .i with
  | .i=>(EX f e ρ).bind fun t ρ=>cond (zM (cls (sg f).sh e) t) (.ok VF.next (ρ.set x (some t))) .stuck
  |s=>cond (decide (npO f<=x)) (((vN sg (sg f).sh (XC f) s e ρ).on ρ).bind fun t ρ=>.ok VF.next (ρ.set x (some t))) .stuck) _
 rw [hs,hp,h]
 show VW (cond (zM (cls (sg f).sh e) t) (.ok VF.next (ρ.set x (some t))) .stuck) _
 rw [st];exact .ok k
end
noncomputable abbrev iT (u:Nat->Int):Nat->Tr:=fun j=>int (u j)
noncomputable abbrev nT (u:Nat->Nat):Nat->Tr:=fun j=>int (u j)
noncomputable abbrev bT (u:Nat->Bool):Nat->Tr:=fun j=>bool (u j)
noncomputable def oV:Option Int->Tr
 |some x=>int x
 |none=>.sc .none
noncomputable abbrev oTr (l:Nat->Option Int):Nat->Tr:=fun j=>oV (l j)
theorem vp {α:Type} (c:α->Tr) {u:Nat->α} {k:Nat} {x:α}:upd (fun j=>c (u j)) k (c x)=fun j=>c (upd u k x j):=by
 funext j
 by_cases e:j=k
 ·subst e;rw [zo,zo]
 ·rw [zu e,zu e]
theorem XX {α:Type} {u:Nat->α} {k:Nat} {x:α} (h:u k=x):upd u k x=u:=by
 funext j
 by_cases e:j=k
 ·subst e;rw [zo,h]
 ·rw [zu e]
noncomputable def tI (xs:List Int):Tr:=.nd .lst (xs.map int)
noncomputable def tII (xss:List (List Int)):Tr:=.nd .lst (xss.map tI)
noncomputable def bA (bs:List (List Int)) (i j:Nat):Int:=(bs.getD i []).getD j 0
noncomputable def cst (costs:List (List Int)) (i j:Nat):Int:=bA costs (i-1) (j-1)
structure Sq (costs:List (List Int)) (n:Nat):Prop where
 np:costs.length=n
 row:∀ r∈costs,r.length=n
theorem qO {α:Type} {g:α->Tr} {xs:List α} {k:Nat} {x:α} (h:xs[k]?=some x):vz (.nd .lst (xs.map g)) (int k)=some (g x):=by
 show ((yX (k:Int) (xs.map g).length).bind fun j=>(xs.map g)[j]?)=_
 rw [length_map,ju (List.getElem?_eq_some_iff.mp h).1]
 show (xs.map g)[k]?=_
 rw [getElem?_map,h];rfl
theorem yt {α:Type} {xs:List α} {k:Nat} {d:α} (h:k<xs.length):xs[k]?=some (xs.getD k d):=by
 rw [getD_eq_getElem?_getD,getElem?_eq_getElem h];rfl
noncomputable def rsV (cs:List (List Int)) (u v:Nat->Int) (ow:Nat->Nat) (n q:Nat) (l:Nat->Option Int) (ca:Nat->Nat) (S:Nat->Bool) (o9 o10 o11 o12 o13:Option Tr):VS :=
 [some (tII cs),some (tA (n+1) (iT u)),some (tA (n+1) (iT v)),some (tA (n+1) (nT ow)),some (int n),some (int q),some (tA (n+1) (oTr l)),some (tA (n+1) (nT ca)),some (tA (n+1) (bT S)),o9,o10,o11,o12,o13]
noncomputable def rb1:zk :=
 (.cons (.ifs (.un .Not (.sub (.loc 8) (.loc 11)))
 (.cons (.assign 12 (.bin .Sub (.bin .Sub (.sub (.sub (.loc 0) (.bin .Sub (.loc 9) (.const (.int 1)))) (.bin .Sub (.loc 11) (.const (.int 1)))) (.sub (.loc 1) (.loc 9))) (.sub (.loc 2) (.loc 11))))
 (.cons (.ifs (.or (.cmp .Is (.sub (.loc 6) (.loc 11)) (.const .none)) (.cmp .Lt (.loc 12) (.sub (.loc 6) (.loc 11))))
 (.cons (.asub (.loc 6) (.loc 11) (.loc 12))
 (.cons (.asub (.loc 7) (.loc 11) (.loc 5))
 .nil))
 .nil)
 (.cons (.ifs (.or (.cmp .Eq (.loc 10) (.const (.int 0))) (.cmp .Lt (.sub (.loc 6) (.loc 11)) (.sub (.loc 6) (.loc 10))))
 (.cons (.assign 10 (.loc 11))
 .nil)
 .nil)
 .nil)))
 .nil)
 .nil)
noncomputable def lwO (x:Option Int) (d:Int):Int:=match x with | none=>d | some x=>if d<x then d else x
noncomputable def lcO (x:Option Int) (d:Int) (ca q:Nat):Nat:=match x with | none=>q | some x=>if d<x then q else ca
section
variable {cs:List (List Int)} {u v:Nat->Int} {ow:Nat->Nat} {n q:Nat} {l:Nat->Option Int} {ca:Nat->Nat} {S:Nat->Bool} {o9 o10 o11 o12 o13:Option Tr}
theorem Sq.at {i j:Nat} (Q:Sq cs n) (i1:1<=i) (i2:i<=n) (j1:1<=j) (j2:j<=n):∃ r,vz (tII cs) (int ((i:Int)-1))=some (tI r)/\vz (tI r) (int ((j:Int)-1))=some (int (cst cs i j)):=by
 have li:i-1<cs.length:=by rw [Q.np];(exact Do i2 j1 j2)
 have lr:j-1<(cs.getD (i-1) []).length:=by rw [Q.row _ (by rw [getD_eq_getElem?_getD,getElem?_eq_getElem li];exact getElem_mem li)];(exact TQ j1 j2)
 refine ⟨cs.getD (i-1) [],?_,?_⟩
 ·rw [show (i:Int)-1=((i-1:Nat):Int) by exact TP i1];exact qO (yt li)
 ·rw [show (j:Int)-1=((j-1:Nat):Int) by exact TP j1];exact qO (yt lr)
theorem Hq (Q:Sq cs n) {i m r:Nat} {P:VF->VS->Prop} (i1:1<=i) (i2:i<=n) (m1:1<=m) (m2:m<=n) (rn:r<=n) (sm:S m=false) {d:Int} (hd:d=cst cs i m-u i-v m) (hr:r≠0->∃ x,l r=some x)
  (k:∀ l' ca' r',l'=upd l m (some (lwO (l m) d))->ca'=upd ca m (lcO (l m) d (ca m) q)->(r'=if r=0\/lwO (l m) d<(l' r).getD 0 then m else r)->P .next (rsV cs u v ow n q l' ca' S (some (int i)) (some (int r')) (some (int m)) (some (int d)) o13)) :
  VW (X 15 rb1 (rsV cs u v ow n q l ca S (some (int i)) (some (int r)) (some (int m)) o12 o13)) P:=by
 have m3:m<n+1:=by exact qn m2
 refine zq (!(S m)) (w7 (x_p (zB (y:=int m) rfl rfl (zG m3)) rfl) rfl) rfl ?_
 rw [sm]
 show VW (X 15 (.cons _ (.cons _ _)) _) _
 obtain ⟨row,e1,e2⟩:=Q.at i1 i2 m1 m2
 refine yn (t:=int d) (zN (y:=int (v m)) (zN (y:=int (u i)) (zB (zB (y:=int ((i:Int)-1)) rfl rfl e1) (y:=int ((m:Int)-1)) rfl e2) (zB (y:=int i) rfl rfl (zG (by exact qn i2))) rfl) (zB (y:=int m) rfl rfl (zG m3)) (by rw [hd];rfl)) rfl rfl rfl ?_
 have fin:∀ l' ca',l'=upd l m (some (lwO (l m) d))->ca'=upd ca m (lcO (l m) d (ca m) q) ->
   VW (X 15 (.cons (.ifs (.or (.cmp .Eq (.loc 10) (.const (.int 0))) (.cmp .Lt (.sub (.loc 6) (.loc 11)) (.sub (.loc 6) (.loc 10)))) (.cons (.assign 10 (.loc 11)) .nil) .nil) .nil) (rsV cs u v ow n q l' ca' S (some (int i)) (some (int r)) (some (int m)) (some (int d)) o13)) (Nx 15 .nil P):=fun l' ca' hl hc=>by
  have lm:l' m=some (lwO (l m) d):=by rw [hl,zo]
  have em:EP 15 (.sub (.loc 6) (.loc 11)) (rsV cs u v ow n q l' ca' S (some (int i)) (some (int r)) (some (int m)) (some (int d)) o13)=.ok (int (lwO (l m) d)):=zB (y:=int m) rfl rfl (by rw [zG m3];show some (oV (l' m))=_;rw [lm];rfl)
  by_cases r0:r=0
  ·subst r0
   exact zq true (x_p (Ky (t:=bool true) rfl rfl) rfl) rfl (.ok (k l' ca' m hl hc (if_pos (.inl rfl)).symm))
  ·have lr:∃ x,l' r=some x:=by
    rw [hl]
    by_cases z:r=m
    ·rw [z,zo];exact ⟨_,rfl⟩
    ·rw [zu z];exact hr r0
   obtain ⟨x,lr⟩:=lr
   refine zq (decide (lwO (l m) d<x)) (x_p (jO (t:=bool false) (zJ rfl rfl (by show some ((r:Int)==0)=_;rw [beq_false_of_ne (by exact YT r0)])) rfl (zJ em (zB (y:=int r) (t:=int x) rfl rfl (by rw [zG (by exact qn rn)];show some (oV (l' r))=_;rw [lr];rfl)) rfl)) rfl) rfl ?_
   by_cases z:lwO (l m) d<x
   ·rw [decide_eq_true z]
    exact .ok (k l' ca' m hl hc (if_pos (.inr (by rw [lr];exact z))).symm)
   ·rw [decide_eq_false z]
    exact .ok (k l' ca' r hl hc (if_neg (fun y=>y.elim r0 fun y=>z (by rw [lr] at y;exact y))).symm)
 have upc:∀ {l' ca'},l'=upd l m (some d)->ca'=upd ca m q->lwO (l m) d=d->lcO (l m) d (ca m) q=q->VW (X 15 (.cons (.asub (.loc 6) (.loc 11) (.loc 12)) (.cons (.asub (.loc 7) (.loc 11) (.loc 5)) .nil)) (rsV cs u v ow n q l ca S (some (int i)) (some (int r)) (some (int m)) (some (int d)) o13)) (Nx 15 (.cons (.ifs (.or (.cmp .Eq (.loc 10) (.const (.int 0))) (.cmp .Lt (.sub (.loc 6) (.loc 11)) (.sub (.loc 6) (.loc 10)))) (.cons (.assign 10 (.loc 11)) .nil) .nil) .nil) (Nx 15 .nil P)):=fun {l' ca'} hl hc e1 e2=>by
  refine kq (g:=oTr l) (k:=m) rfl rfl rfl m3 rfl rfl ?_
  refine kq (g:=nT ca) (k:=m) (t:=int q) rfl rfl rfl m3 rfl rfl ?_
  have:=fin l' ca' (by rw [hl,e1]) (by rw [hc,e2])
  rw [hl,hc] at this
  show VW (X 15 _ (((rsV cs u v ow n q l ca S (some (int i)) (some (int r)) (some (int m)) (some (int d)) o13).set 6 (some (tA (n+1) (upd (oTr l) m (oV (some d)))))).set 7 (some (tA (n+1) (upd (nT ca) m (int (q:Int))))))) _
  rw [vp oV,vp (fun j:Nat=>int (j:Int))]
  exact this
 have e6:EP 15 (.sub (.loc 6) (.loc 11)) (rsV cs u v ow n q l ca S (some (int i)) (some (int r)) (some (int m)) (some (int d)) o13)=.ok (oV (l m)):=zB (y:=int m) rfl rfl (zG m3)
 cases lm:l m with
 |none =>
  rw [lm] at e6 upc
  exact zq true (x_p (Ky (zJ e6 (y:=.sc .none) rfl rfl) rfl) rfl) rfl (upc rfl rfl rfl rfl)
 |some x =>
  rw [lm] at e6 upc fin
  by_cases z:d<x
  ·exact zq true (x_p (jO (t:=bool false) (zJ e6 (y:=.sc .none) rfl rfl) rfl (zJ (x:=int d) rfl e6 (by show some (decide (d<x))=_;rw [decide_eq_true z]))) rfl) rfl (upc rfl rfl (if_pos z) (if_pos z))
  ·refine zq false (x_p (jO (t:=bool false) (zJ e6 (y:=.sc .none) rfl rfl) rfl (zJ (x:=int d) rfl e6 (by show some (decide (d<x))=_;rw [decide_eq_false z]))) rfl) rfl ?_
   have w1:lwO (some x) d=x:=if_neg z
   have w2:lcO (some x) d (ca m) q=ca m:=if_neg z
   exact .ok (fin l ca (by rw [w1];exact (XX lm).symm) (by rw [w2];exact (XX rfl).symm))
end
end Mine
namespace Mine
noncomputable def vH (S:Nat->Bool) (m:Nat):Nat:=((List.range m).filter S).length
theorem U7 {S:Nat->Bool} {m:Nat}:vH S m<=m:=by
 have:=List.length_filter_le S (List.range m);simpa [vH] using this
theorem wX {S:Nat->Bool} {m:Nat}:vH S (m+1)=vH S m+(if S m=true then 1 else 0):=by
 unfold vH
 rw [range_succ,List.filter_append,length_append]
 by_cases q:S m=true <;> simp [q]
theorem wy {S:Nat->Bool} {q:Nat} (hS:S q=false):∀ {m},vH (upd S q true) m=vH S m+(if q<m then 1 else 0)
 | 0=>by simp [vH]
 |m+1=>by
  rw [wX,wX,wy hS (m:=m)]
  by_cases e:m=q
  ·subst e
   rw [zo,hS];simp
  ·rw [zu e]
   by_cases l:q<m
   ·rw [if_pos l,if_pos (show q<m+1 by exact qp l)];(first | exact Dn | omega)
   ·rw [if_neg l,if_neg (show ¬ q<m+1 by exact Dm e l)];(first | exact Dl | omega)
theorem Jy {S:Nat->Bool} {q m:Nat} (hS:S q=false) (hq:q<m):vH S m<m:=by
 have:=wy hS (m:=m)
 rw [if_pos hq] at this
 have:=U7 (S:=upd S q true) (m:=m)
 (exact Dk ‹_› this)
structure Vw (n k:Nat) (ow:Nat->Nat):Prop where
 zero:ow 0=k
 pos:0<k
 le:k<=n
 lt:∀ j,1<=j->j<=n->ow j<k
 inj:∀ j j',j<=n->j'<=n->ow j≠0->ow j=ow j'->j=j'
 free:∃ j,1<=j/\j<=n/\ow j=0
theorem Vw.bound {n k:Nat} {ow:Nat->Nat} (O:Vw n k ow) {j:Nat} (hj:j<=n):ow j<=k:=by
 rcases eq_zero_or_pos j with rfl | q
 ·rw [O.zero];exact Nat.le_refl _
 ·have:=O.lt j q hj;(exact DK this)
noncomputable abbrev slk (c:Nat->Nat->Int) (u v:Nat->Int) (i j:Nat):Int:=c i j-u i-v j
structure Tree (n k:Nat) (c:Nat->Nat->Int) (ow:Nat->Nat) (q t:Nat) (S:Nat->Bool) (l:Nat->Option Int) (ca:Nat->Nat) (u v:Nat->Int) (rk:Nat->Nat):Prop where
 q_le:q<=n
 q_new:S q=false
 q_pos:0<t->q≠0
 S_own:∀ j,j<=n->S j=true->ow j≠0
 first:t=0->q=0/\(∀ j,S j=false)/\(∀ j,l j=none)
 zero:0<t->S 0=true
 tight:∀ j,1<=j->j<=n->ow j≠0->c (ow j) j=u (ow j)+v j
 feas:∀ i j,1<=i->(i<k\/(i=k/\0<t))->1<=j->j<=n->u i+v j<=c i j
 least:0<t->∀ j,1<=j->j<=n->S j=false->ca j<=n/\S (ca j)=true/\l j=some (slk c u v (ow (ca j)) j)/\∀ s,s<=n->S s=true->slk c u v (ow (ca j)) j<=slk c u v (ow s) j
 path:∀ j,1<=j->j<=n->(S j=true\/j=q)->ca j<=n/\S (ca j)=true/\c (ow (ca j)) j=u (ow (ca j))+v j/\rk (ca j)<rk j
 rkq:rk q=t
 rkS:∀ j,j<=n->S j=true->rk j<t
 cnt:vH S (n+1)=t
noncomputable def lw (l:Nat->Option Int) (d:Nat->Int) (j:Nat):Int:=lwO (l j) (d j)
noncomputable def lc (l:Nat->Option Int) (ca:Nat->Nat) (d:Nat->Int) (q:Nat) (j:Nat):Nat:=lcO (l j) (d j) (ca j) q
theorem Tree.step {n k:Nat} {c:Nat->Nat->Int} {ow:Nat->Nat} {q t:Nat} {S:Nat->Bool} {l:Nat->Option Int} {ca:Nat->Nat} {u v:Nat->Int} {rk:Nat->Nat}
  (O:Vw n k ow) (T:Tree n k c ow q t S l ca u v rk) (hq:ow q≠0)
  {r:Nat} {l':Nat->Option Int} {ca':Nat->Nat} {u' v':Nat->Int}
  (r1:1<=r) (rn:r<=n) (rS:upd S q true r=false) (rmin:∀ j,1<=j->j<=n->upd S q true j=false->lw l (slk c u v (ow q)) r<=lw l (slk c u v (ow q)) j)
  (hca:∀ j,ca' j=if 1<=j/\j<=n/\upd S q true j=false then lc l ca (slk c u v (ow q)) q j else ca j)
  (hl:∀ j,1<=j->j<=n->upd S q true j=false->l' j=some (lw l (slk c u v (ow q)) j-lw l (slk c u v (ow q)) r))
  (hu1:∀ s,s<=n->upd S q true s=true->u' (ow s)=u (ow s)+lw l (slk c u v (ow q)) r)
  (hu0:∀ i,(∀ s,s<=n->upd S q true s=true->ow s≠i)->u' i=u i)
  (hv:∀ j,v' j=if j<=n/\upd S q true j=true then v j-lw l (slk c u v (ow q)) r else v j) :
  Tree n k c ow r (t+1) (upd S q true) l' ca' u' v' (upd rk r (t+1)):=by
 obtain ⟨S',hS'⟩:∃ S',S'=upd S q true:=⟨_,rfl⟩
 rw [<- hS'] at rS rmin hca hl hu1 hu0 hv ⊢
 have Sq:S' q=true:=by rw [hS',zo]
 have Sor:∀ j,S' j=true->S j=true\/j=q:=fun j h=>by
  rw [hS',upd] at h
  split at h
  ·right;assumption
  ·left;exact h
 have Sup:∀ j,S j=true->S' j=true:=fun j h=>by
  rw [hS',upd]
  split
  ·rfl
  ·exact h
 have Sdn:∀ j,S' j=false->S j=false:=fun j h=>by
  cases e:S j with
  |false=>rfl
  |true=>rw [Sup j e] at h;cases h
 have S0:S' 0=true:=by
  rcases eq_zero_or_pos t with h | h
  ·have:=(T.first h).1;rw [this] at Sq;exact Sq
  ·exact Sup _ (T.zero h)
 have Sow:∀ j,j<=n->S' j=true->ow j≠0:=fun j hj h=>by
  rcases Sor j h with h | rfl
  ·exact T.S_own j hj h
  ·exact hq
 obtain ⟨d,hd⟩:∃ d,d=slk c u v (ow q):=⟨_,rfl⟩
 rw [<- hd] at rmin hca hl hu1 hv
 have key:∀ j,1<=j->j<=n->S' j=false->lc l ca d q j<=n/\S' (lc l ca d q j)=true/\lw l d j=slk c u v (ow (lc l ca d q j)) j/\∀ s,s<=n->S' s=true->lw l d j<=slk c u v (ow s) j:=by
  intro j h1 h2 h3
  rcases eq_zero_or_pos t with ht | ht
  ·have f:=T.first ht
   have e:l j=none:=f.2.2 j
   have ew:lw l d j=d j:=by simp [lw,lwO,e]
   have ec:lc l ca d q j=q:=by simp [lc,lcO,e]
   rw [ew,ec,hd]
   refine ⟨T.q_le,Sq,rfl,fun s hs h=>?_⟩
   rcases Sor s h with h | rfl
   ·rw [f.2.1 s] at h;cases h
   ·exact Int.le_refl _
  ·obtain ⟨a1,a2,a3,a4⟩:=T.least ht j h1 h2 (Sdn j h3)
   by_cases hlt:d j<slk c u v (ow (ca j)) j
   ·have ew:lw l d j=d j:=by simp [lw,lwO,a3,hlt]
    have ec:lc l ca d q j=q:=by simp [lc,lcO,a3,hlt]
    rw [ew,ec]
    refine ⟨T.q_le,Sq,by rw [hd],fun s hs h=>?_⟩
    rcases Sor s h with h | rfl
    ·have:=a4 s hs h;(exact TN hlt this)
    ·rw [hd];exact Int.le_refl _
   ·have ew:lw l d j=slk c u v (ow (ca j)) j:=by simp [lw,lwO,a3,hlt]
    have ec:lc l ca d q j=ca j:=by simp [lc,lcO,a3,hlt]
    rw [ew,ec]
    refine ⟨a1,Sup _ a2,rfl,fun s hs h=>?_⟩
    rcases Sor s h with h | rfl
    ·exact a4 s hs h
    ·rw [<- hd];(exact YS hlt)
 obtain ⟨D,hD⟩:∃ D,D=lw l d r:=⟨_,rfl⟩
 rw [<- hD] at rmin hl hu1 hv
 have Dpos:0<t->0<=D:=fun ht=>by
  obtain ⟨b1,b2,b3,b4⟩:=key r r1 rn rS
  rw [hD,b3]
  have bo:=O.bound b1
  have bp:=Sow _ b1 b2
  have:=T.feas (ow (lc l ca d q r)) r (by exact V8 bp) (by exact Di ht bo) r1 rn
  simp only [slk];(exact Dh this)
 have uT:∀ s,s<=n->S' s=true->u' (ow s)=u (ow s)+D:=hu1
 have vT:∀ j,j<=n->S' j=true->v' j=v j-D:=fun j hj h=>by rw [hv,if_pos ⟨hj,h⟩]
 have vF:∀ j,S' j=false->v' j=v j:=fun j h=>by rw [hv,if_neg (by rw [h];simp)]
 have uF:∀ j,j<=n->S' j=false->ow j≠0->u' (ow j)=u (ow j):=fun j hj h h0=>hu0 _ fun s hs hS e=>by
  have:=O.inj j s hj hs h0 e.symm
  rw [<- this,h] at hS;cases hS
 refine ⟨rn,rS,fun _=>by exact v8 r1,Sow,fun h=>by omega,fun _=>S0,?_,?_,?_,?_,zo,?_,?_⟩
 ·
  intro j h1 h2 h3
  have:=T.tight j h1 h2 h3
  cases e:S' j with
  |true=>rw [uT j h2 e,vT j h2 e];(exact TM this)
  |false=>rw [uF j h2 e h3,vF j e];exact this
 ·
  intro i j h1 hi h2 h3
  by_cases tr:∃ s,s<=n/\S' s=true/\ow s=i
  ·obtain ⟨s,s1,s2,rfl⟩:=tr
   rw [uT s s1 s2]
   cases e:S' j with
   |true =>
    rw [vT j h3 e]
    have ht:0<t:=by
     rcases eq_zero_or_pos t with ht | ht
     ·have f:=T.first ht
      rcases Sor j e with z | z
      ·rw [f.2.1] at z;cases z
      ·omega
     ·exact ht
    have:=T.feas (ow s) j h1 (by exact Dg hi ht) h2 h3
    (exact Df this)
   |false =>
    rw [vF j e]
    obtain ⟨b1,b2,b3,b4⟩:=key j h2 h3 e
    have m1:=rmin j h2 h3 e
    have m2:=b4 s s1 s2
    simp only [slk] at m2;(exact De m1 m2)
  ·have hik:i<k:=by
    rcases hi with z | z
    ·exact z
    ·exact (tr ⟨0,by (first | exact Wa | omega),S0,by rw [O.zero];exact z.1.symm⟩).elim
   have e0:u' i=u i:=hu0 i fun s hs h e=>tr ⟨s,hs,h,e⟩
   have:=T.feas i j h1 (Or.inl hik) h2 h3
   cases e:S' j with
   |true =>
    rw [e0,vT j h3 e]
    have ht:0<t:=by
     rcases eq_zero_or_pos t with ht | ht
     ·have f:=T.first ht
      rcases Sor j e with z | z
      ·rw [f.2.1] at z;cases z
      ·omega
     ·exact ht
    have:=Dpos ht
    (exact Dd ‹_› this)
   |false=>rw [e0,vF j e];exact this
 ·
  intro _ j h1 h2 h3
  obtain ⟨b1,b2,b3,b4⟩:=key j h1 h2 h3
  have ec:ca' j=lc l ca d q j:=by rw [hca,if_pos ⟨h1,h2,h3⟩]
  rw [ec]
  have es:∀ s,s<=n->S' s=true->slk c u' v' (ow s) j=slk c u v (ow s) j-D:=fun s hs h=>by
   simp only [slk];rw [uT s hs h,vF j h3];(first | exact Dc | omega)
  refine ⟨b1,b2,?_,fun s hs h=>?_⟩
  ·rw [hl j h1 h2 h3,es _ b1 b2,b3]
  ·rw [es _ b1 b2,es s hs h]
   have:=b4 s hs h
   (exact Db b3 this)
 ·
  intro j h1 h2 h3
  by_cases e:j=r
  ·subst e
   obtain ⟨b1,b2,b3,b4⟩:=key j h1 h2 rS
   have ec:ca' j=lc l ca d q j:=by rw [hca,if_pos ⟨h1,h2,rS⟩]
   rw [ec]
   refine ⟨b1,b2,?_,?_⟩
   ·rw [uT _ b1 b2,vF j rS,hD,b3];simp only [slk];(first | exact C9 | omega)
   ·rw [zo]
    have ne:lc l ca d q j≠j:=fun z=>by rw [z,rS] at b2;cases b2
    rw [zu ne]
    rcases Sor _ b2 with z | z
    ·have:=T.rkS _ b1 z;(exact qp this)
    ·rw [z,T.rkq];(first | exact jb | omega)
  ·have hj:S' j=true:=by rcases h3 with z | z;exact z;exact (e z).elim
   have ec:ca' j=ca j:=by rw [hca,if_neg (by rw [hj];simp)]
   obtain ⟨p1,p2,p3,p4⟩:=T.path j h1 h2 (Sor j hj)
   rw [ec]
   refine ⟨p1,Sup _ p2,?_,?_⟩
   ·rw [uT _ p1 (Sup _ p2),vT j h2 hj];(exact TM p3)
   ·have ne:ca j≠r:=fun z=>by have:=Sup _ p2;rw [z,rS] at this;cases this
    rw [zu e,zu ne];exact p4
 ·
  intro j hj h
  have ne:j≠r:=fun z=>by rw [z,rS] at h;cases h
  rw [zu ne]
  rcases Sor j h with z | z
  ·have:=T.rkS j hj z;(exact qp this)
  ·rw [z,T.rkq];(first | exact jb | omega)
 ·rw [hS',wy T.q_new,if_pos (by have:=T.q_le;(exact qn this)),T.cnt]
end Mine
namespace Mine
theorem Q2:∀ (n m:Nat) (f:Nat->Nat),(∀ j,j<n->f j<m)->(∀ j j',j<n->j'<n->f j=f j'->j=j')->n<=m
 | 0,m,f,_,_=>by (first | exact Wa | omega)
 |n+1,m,f,hb,hi=>by
  have hm:0<m:=by have:=hb 0 (by (first | exact TL | omega));(exact C8 this)
  have key:=Q2 n (m-1) (fun j=>if f j=m-1 then f n else f j) (fun j hj=>by
   have h1:=hb j (by exact qp hj)
   have h2:=hb n (by (first | exact jb | omega))
   by_cases z:f j=m-1
   ·simp only [z,if_true]
    have:f n≠m-1:=fun w=>by have:=hi j n (by exact qp hj) (by (first | exact jb | omega)) (by exact TK z w);(exact YR hj this)
    (exact C7 h2 this)
   ·simp only [z,if_false];(exact C6 h1 z)) (fun j j' hj hj' e=>by
   have a1:=hi j j' (by exact qp hj) (by exact qp hj')
   have a2:=hi j n (by exact qp hj) (by (first | exact jb | omega))
   have a3:=hi j' n (by exact qp hj') (by (first | exact jb | omega))
   by_cases z:f j=m-1 <;> by_cases z':f j'=m-1
   ·exact a1 (by exact TK z z')
   ·simp only [z,z',if_true,if_false] at e
    have:=a3 e.symm;(exact C5 hj' this)
   ·simp only [z,z',if_true,if_false] at e
    have:=a2 e;(exact C4 hj this)
   ·simp only [z,z',if_false] at e
    exact a1 e)
  (exact C3 hm key)
structure Mat (n k:Nat) (c:Nat->Nat->Int) (ow:Nat->Nat) (u v:Nat->Int):Prop where
 lt:∀ j,1<=j->j<=n->ow j<k
 inj:∀ j j',1<=j->j<=n->1<=j'->j'<=n->ow j≠0->ow j=ow j'->j=j'
 sur:∀ i,1<=i->i<k->∃ j,1<=j/\j<=n/\ow j=i
 tight:∀ j,1<=j->j<=n->ow j≠0->c (ow j) j=u (ow j)+v j
 feas:∀ i j,1<=i->i<k->1<=j->j<=n->u i+v j<=c i j
theorem Mat.own {n k:Nat} {c:Nat->Nat->Int} {ow:Nat->Nat} {u v:Nat->Int} (M:Mat n k c ow u v) (hk:0<k) (hn:k<=n):Vw n k (upd ow 0 k):=by
 have up:∀ j,1<=j->upd ow 0 k j=ow j:=fun j hj=>zu (by exact v8 hj)
 refine ⟨zo,hk,hn,fun j j1 j2=>by rw [up j j1];exact M.lt j j1 j2,fun j j' hj hj' h0 e=>?_,?_⟩
 ·rcases eq_zero_or_pos j with z | z <;> rcases eq_zero_or_pos j' with z' | z'
  ·(exact C2 z z')
  ·subst z;rw [zo,up j' z'] at e;have:=M.lt j' z' hj';(exact C1 e this)
  ·subst z';rw [zo,up j z] at e;have:=M.lt j z hj;(exact C0 e this)
  ·rw [up j z] at e h0;rw [up j' z'] at e;exact M.inj j j' z hj z' hj' h0 e
 ·refine Classical.byContradiction fun no=>?_
  have nz:∀ j,1<=j->j<=n->ow j≠0:=fun j j1 j2 e=>no ⟨j,j1,j2,by rw [up j j1];exact e⟩
  have:=Q2 n (k-1) (fun j=>ow (j+1)-1) (fun j hj=>by
   have:=M.lt (j+1) (by (first | exact jr | omega)) (by exact om1 hj);have:=nz (j+1) (by (first | exact jr | omega)) (by exact om1 hj);(exact CZ ‹_› this)) (fun j j' hj hj' e=>by
   have a:=nz (j+1) (by (first | exact jr | omega)) (by exact om1 hj)
   have b:=nz (j'+1) (by (first | exact jr | omega)) (by exact om1 hj')
   have:=M.inj (j+1) (j'+1) (by (first | exact jr | omega)) (by exact om1 hj) (by (first | exact jr | omega)) (by exact om1 hj') a (by exact CY e a b)
   (exact CX this))
  (exact CW hk hn this)
theorem Mat.full {n:Nat} {c:Nat->Nat->Int} {ow:Nat->Nat} {u v:Nat->Int} (M:Mat n (n+1) c ow u v) {j0:Nat} (j1:1<=j0) (j2:j0<=n):ow j0≠0:=by
 intro e0
 have ch:∀ i,∃ j,i<n->1<=j/\j<=n/\ow j=i+1:=fun i=>by
  by_cases hi:i<n
  ·obtain ⟨j,h⟩:=M.sur (i+1) (by (first | exact jr | omega)) (by exact GT hi)
   exact ⟨j,fun _=>h⟩
  ·exact ⟨0,fun h=>(hi h).elim⟩
 obtain ⟨g,hg⟩:∃ g:Nat->Nat,∀ i,i<n->1<=g i/\g i<=n/\ow (g i)=i+1:=⟨fun i=>(ch i).choose,fun i=>(ch i).choose_spec⟩
 have:=Q2 (n+1) n (fun i=>if i=n then j0-1 else g i-1) (fun i hi=>by
  by_cases z:i=n
  ·simp only [z,if_true];(exact TQ j1 j2)
  ·have:=hg i (by exact uh hi z)
   simp only [z,if_false];(exact CV this)) (fun i i' hi hi' e=>by
  by_cases z:i=n <;> by_cases z':i'=n
  ·(exact om2 z z')
  ·have a:=hg i' (by exact uh hi' z')
   simp only [z,z',if_true,if_false] at e
   have:g i'=j0:=by exact CU j1 a e
   have w:=a.2.2
   rw [this,e0] at w;(exact CT w)
  ·have a:=hg i (by exact uh hi z)
   simp only [z,z',if_true,if_false] at e
   have:g i=j0:=by exact CR j1 a e
   have w:=a.2.2
   rw [this,e0] at w;(exact CQ w)
  ·have a:=hg i (by exact uh hi z)
   have b:=hg i' (by exact uh hi' z')
   simp only [z,z',if_false] at e
   have:g i=g i':=by exact CP a b e
   rw [this] at a;(exact CO a b))
 (exact CN this)
structure uW (n k:Nat) (c:Nat->Nat->Int) (ow0:Nat->Nat) (S:Nat->Bool) (rk:Nat->Nat) (u v:Nat->Int) (q0 q:Nat) (o:Nat->Nat):Prop where
 q_le:q<=n
 q_in:S q=true\/q=q0
 old:∀ j,j<=n->rk j<rk q->o j=ow0 j
 tight:∀ j,1<=j->j<=n->j≠q->o j≠0->c (o j) j=u (o j)+v j
 le:∀ j,j<=n->j≠q->o j<=k
 inj:∀ j j',j<=n->j'<=n->j≠q->j'≠q->o j≠0->o j=o j'->j=j'
 sur:∀ i,1<=i->i<=k->∃ j,j<=n/\j≠q/\o j=i
theorem uW.first {n k t q:Nat} {c:Nat->Nat->Int} {ow:Nat->Nat} {S:Nat->Bool} {l:Nat->Option Int} {ca:Nat->Nat} {rk:Nat->Nat} {u0 v0 u v:Nat->Int} (M:Mat n k c ow u0 v0) (O:Vw n k (upd ow 0 k)) (T:Tree n k c (upd ow 0 k) q t S l ca u v rk) (hq:upd ow 0 k q=0) :
  uW n k c (upd ow 0 k) S rk u v q q (upd ow 0 k):=by
 have q0:q≠0:=fun z=>by rw [z,zo] at hq;have:=O.pos;(exact CM hq this)
 refine ⟨T.q_le,Or.inr rfl,fun j _ _=>rfl,fun j j1 j2 _ h=>T.tight j j1 j2 h,fun j hj _=>O.bound hj,fun j j' hj hj' _ _ h e=>O.inj j j' hj hj' h e,fun i i1 i2=>?_⟩
 by_cases z:i=k
 ·exact ⟨0,by (first | exact Wa | omega),fun w=>q0 w.symm,by rw [zo,z]⟩
 ·obtain ⟨j,j1,j2,e⟩:=M.sur i i1 (by exact CL i2 z)
  refine ⟨j,j2,fun w=>?_,by rw [zu (by exact v8 j1),e]⟩
  rw [<- w,zu (by exact v8 j1),e] at hq;(exact YQ i1 hq)
theorem uW.next {n k t q0 q:Nat} {c:Nat->Nat->Int} {ow0:Nat->Nat} {S:Nat->Bool} {l:Nat->Option Int} {ca:Nat->Nat} {rk:Nat->Nat} {u v:Nat->Int} {o:Nat->Nat} (T:Tree n k c ow0 q0 t S l ca u v rk) (H:uW n k c ow0 S rk u v q0 q o) (hq:q≠0) :
  ca q<=n/\rk (ca q)<rk q/\uW n k c ow0 S rk u v q0 (ca q) (upd o q (o (ca q))):=by
 obtain ⟨p1,p2,p3,p4⟩:=T.path q (by exact V8 hq) H.q_le H.q_in
 have ne:ca q≠q:=fun z=>by rw [z] at p4;(exact CK p4)
 have eo:o (ca q)=ow0 (ca q):=H.old _ p1 p4
 refine ⟨p1,p4,p1,Or.inl p2,fun j hj hr=>?_,fun j j1 j2 jn h=>?_,fun j hj jn=>?_,fun j j' hj hj' jn jn' h e=>?_,fun i i1 i2=>?_⟩
 ·have:j≠q:=fun z=>by rw [z] at hr;(exact CJ p4 hr)
  rw [zu this];exact H.old j hj (by exact AY p4 hr)
 ·by_cases z:j=q
  ·subst z;rw [zo,eo];exact p3
  ·rw [zu z] at h ⊢;exact H.tight j j1 j2 z h
 ·by_cases z:j=q
  ·subst z;rw [zo];exact H.le _ p1 ne
  ·rw [zu z];exact H.le j hj z
 ·by_cases z:j=q <;> by_cases z':j'=q
  ·(exact om2 z z')
  ·rw [z,zo] at e h;rw [zu z'] at e
   have:=H.inj (ca q) j' p1 hj' ne z' h e;(exact CI jn' this)
  ·rw [z',zo] at e;rw [zu z] at e h
   have:=H.inj j (ca q) hj p1 z ne h e;(exact CH jn this)
  ·rw [zu z] at e h;rw [zu z'] at e
   exact H.inj j j' hj hj' z z' h e
 ·obtain ⟨j,hj,jn,e⟩:=H.sur i i1 i2
  by_cases z:j=ca q
  ·exact ⟨q,H.q_le,fun w=>ne w.symm,by rw [zo,<- z,e]⟩
  ·exact ⟨j,hj,z,by rw [zu jn,e]⟩
theorem uW.mat {n k t q0:Nat} {c:Nat->Nat->Int} {ow0:Nat->Nat} {S:Nat->Bool} {l:Nat->Option Int} {ca:Nat->Nat} {rk:Nat->Nat} {u v:Nat->Int} {o:Nat->Nat} (T:Tree n k c ow0 q0 t S l ca u v rk) (ht:0<t) (H:uW n k c ow0 S rk u v q0 0 o):Mat n (k+1) c o u v :=
 ⟨fun j j1 j2=>by have:=H.le j j2 (by exact v8 j1);(exact qn this),fun j j' j1 j2 j1' j2' h e=>H.inj j j' j2 j2' (by exact v8 j1) (by exact v8 j1') h e,fun i i1 i2=>by
  obtain ⟨j,hj,jn,e⟩:=H.sur i i1 (by exact kC i2)
  exact ⟨j,by exact V8 jn,hj,e⟩,fun j j1 j2 h=>H.tight j j1 j2 (by exact v8 j1) h,fun i j i1 i2 j1 j2=>T.feas i j i1 (by exact CG ht i2) j1 j2⟩
end Mine
namespace Mine
open PySem (Operator UnaryOp CmpOp)
noncomputable def EI (f:Nat) (e:za) (ρ:VS):Ex (List Tr):=(zK sg (sg f).sh (XC f) e).I ρ
noncomputable def Ai (f y:Nat) (it:za):Bool:=Wx ((sg f).sh.getD y .i) (Uk (sg f).sh it) (cls (sg f).sh it)
section
variable {f:Nat} {ρ:VS} {Q:VF->VS->Prop} {r b:zk}
theorem yI {y:Nat} {it:za} {ts:List Tr} (hi:EI f it ρ=.ok ts) (hg:Ai f y it=true) (k:VW (jF (fun x ρ=>X f b (ρ.set y (some x))) ts ρ) (Nx f r Q)):VW (X f (.cons (.fors (.loc y) it b) r) ρ) Q:=by
 refine yJ ?_
 show VW (cond (Ai f y it) (((EI f it ρ).on ρ).bind fun ts ρ=>jF (fun x ρ=>X f b (ρ.set y (some x))) ts ρ) .stuck) _
 rw [hg,hi];exact k
theorem U0 {a e:za} {x y:Tr} {ts:List Tr} (ha:EP f a ρ=.ok x) (hb:EP f e ρ=.ok y) (h:ku x y=.ok ts):EI f (.irange2 a e) ρ=.ok ts:=by
 show (EP f a ρ).bind _=_
 rw [ha]
 show (EP f e ρ).bind _=_
 rw [hb];exact h
theorem Jq {a:za} {x:Tr} {ts:List Tr} (ha:EP f a ρ=.ok x) (h:ku (int 0) x=.ok ts):EI f (.irange a) ρ=.ok ts:=by
 show (EP f a ρ).bind _=_
 rw [ha];exact h
theorem Hj {c:za} (k:VW (jU (fun ρ=>(EX f c ρ).bind fun t ρ=>(Ex.opt (zd t)).on ρ) (X f b) 100 ρ) (Nx f r Q)):VW (X f (.cons (.whiles c b) r) ρ) Q:=yJ k
theorem vO {x n:Nat} {c:Val} {e:za} (he:EP f e ρ=.ok (int n)) (hn:n<=1000) (hs:(sg f).sh.getD x .i=.L .i) (hx:decide (npO f<=x)=true) (k:Nr f r Q (ρ.set x (some (tA n fun _=>.sc c)))):VW (X f (.cons (.assign x (.bin .Mult (.lst (.cons (.const c) .nil)) e)) r) ρ) Q:=by
 refine yJ ?_
 show VW (match (sg f).sh.getD x .i with
  | .i=>(EX f (.bin .Mult (.lst (.cons (.const c) .nil)) e) ρ).bind fun t ρ=>cond (zM (cls (sg f).sh (.bin .Mult (.lst (.cons (.const c) .nil)) e)) t) (.ok VF.next (ρ.set x (some t))) .stuck
  |s=>cond (decide (npO f<=x)) (((vN sg (sg f).sh (XC f) s (.bin .Mult (.lst (.cons (.const c) .nil)) e) ρ).on ρ).bind fun t ρ=>.ok VF.next (ρ.set x (some t))) .stuck) _
 rw [hs,hx]
 show VW (((EP f (.bin .Mult (.lst (.cons (.const c) .nil)) e) ρ).on ρ).bind _) _
 rw [zN (x:=.nd .lst [.sc c]) (y:=int n) (t:=tA n fun _=>.sc c) (by
  show ((((ZJ c).bind fun x=>Ex.bind (.ok []) fun l=>.ok (x::l))).bind mkL)=_
  rfl) he (by
  show (if (n:Int)<=lim/\-lim<=(n:Int) then mkL (List.replicate (n:Int).toNat [Tr.sc c]).flatten else .stuck)=_
  rw [if_pos (by unfold lim;(exact TJ hn)),toNat_natCast,JE]
  unfold mkL
  rw [if_pos (by rw [yu];unfold lim;(exact DM hn))];rfl)]
 exact .ok k
end
theorem Ys {a b:Int} (h:-1000<=a/\a<=1000/\-1000<=b/\b<=2000):jW a b=true:=by
 unfold jW
 rw [decide_eq_true (by unfold lim;(exact CF h)),decide_eq_true (by unfold lim;(exact CE h)),decide_eq_true (by unfold lim;(exact CD h)),decide_eq_true (by unfold lim;(exact CC h)),decide_eq_true (by unfold lim;(exact CB h))];rfl
theorem K5 {a b:Int}:ku (int a) (int b)=if jW a b=true then Ex.ok (yh a (b-a).toNat) else .stuck:=rfl
theorem GL {n:Nat} (h:n<=1000):ku (int 1) (int ((n:Int)+1))=.ok (yh 1 n):=by
 rw [K5,if_pos (Ys (by omega)),Int.add_sub_cancel,toNat_natCast]
theorem GM {n:Nat} (h:n<=1000):ku (int 0) (int (n:Int))=.ok (yh 0 n):=by
 rw [K5,if_pos (Ys (by omega)),Int.sub_zero,toNat_natCast]
noncomputable def rb2:zk :=
 (.cons (.ifs (.sub (.loc 8) (.loc 11))
 (.cons (.asub (.loc 1) (.sub (.loc 3) (.loc 11)) (.bin .Add (.sub (.loc 1) (.sub (.loc 3) (.loc 11))) (.loc 13)))
 (.cons (.asub (.loc 2) (.loc 11) (.bin .Sub (.sub (.loc 2) (.loc 11)) (.loc 13)))
 .nil))
 (.cons (.ifs (.cmp .Gt (.loc 11) (.const (.int 0)))
 (.cons (.asub (.loc 6) (.loc 11) (.bin .Sub (.sub (.loc 6) (.loc 11)) (.loc 13)))
 .nil)
 .nil)
 .nil))
 .nil)
section
variable {cs:List (List Int)} {u v:Nat->Int} {ow:Nat->Nat} {n q:Nat} {l:Nat->Option Int} {ca:Nat->Nat} {S:Nat->Bool} {o9 o10 o11 o12 o13:Option Tr}
structure L1 (l l':Nat->Option Int) (ca ca':Nat->Nat) (S:Nat->Bool) (d:Nat->Int) (q m r:Nat):Prop where
 m1:1<=m
 hl:∀ j,l' j=if 1<=j/\j<m/\S j=false then some (lw l d j) else l j
 hc:∀ j,ca' j=if 1<=j/\j<m/\S j=false then lc l ca d q j else ca j
 hr:(r=0/\∀ j,1<=j->j<m->S j=true)\/(1<=r/\r<m/\S r=false/\∀ j,1<=j->j<m->S j=false->lw l d r<=lw l d j)
theorem L1.next {l':Nat->Option Int} {ca':Nat->Nat} {d:Nat->Int} {m r:Nat} (I:L1 l l' ca ca' S d q m r) (sm:S m=true):L1 l l' ca ca' S d q (m+1) r:=by
 have g:∀ j,(1<=j/\j<m+1/\S j=false)=(1<=j/\j<m/\S j=false):=fun j=>propext ⟨fun ⟨a,b,c⟩=>⟨a,(show j<m\/j=m by exact vq b).elim id (fun e=>by rw [e,sm] at c;cases c),c⟩,fun ⟨a,b,c⟩=>⟨a,by exact qp b,c⟩⟩
 refine ⟨by (first | exact jr | omega),fun j=>by rw [I.hl j];simp only [g],fun j=>by rw [I.hc j];simp only [g],I.hr.imp (fun ⟨a,b⟩=>⟨a,fun j j1 j2=>?_⟩) fun ⟨a,b,c,e⟩=>⟨a,by exact qp b,c,fun j j1 j2 j3=>?_⟩⟩
 ·rcases (show j<m\/j=m by exact vq j2) with z | z
  ·exact b j j1 z
  ·rw [z];exact sm
 ·rcases (show j<m\/j=m by exact vq j2) with z | z
  ·exact e j j1 z j3
  ·rw [z,sm] at j3;cases j3
theorem L1.new {l' l'':Nat->Option Int} {ca' ca'':Nat->Nat} {d:Nat->Int} {m r r':Nat} (I:L1 l l' ca ca' S d q m r) (sm:S m=false) (hl:l''=upd l' m (some (lwO (l' m) (d m)))) (hc:ca''=upd ca' m (lcO (l' m) (d m) (ca' m) q))
  (hr:r'=if r=0\/lwO (l' m) (d m)<(l'' r).getD 0 then m else r):L1 l l'' ca ca'' S d q (m+1) r':=by
 have g:∀ j,j≠m->(1<=j/\j<m+1/\S j=false)=(1<=j/\j<m/\S j=false):=fun j n=>propext ⟨fun ⟨a,b,c⟩=>⟨a,by exact CA n b,c⟩,fun ⟨a,b,c⟩=>⟨a,by exact qp b,c⟩⟩
 have lm:l' m=l m:=by rw [I.hl,if_neg (by omega)]
 have cm:ca' m=ca m:=by rw [I.hc,if_neg (by omega)]
 have w:lwO (l' m) (d m)=lw l d m:=by rw [lm];rfl
 have wl:∀ j,l'' j=if 1<=j/\j<m+1/\S j=false then some (lw l d j) else l j:=fun j=>by
  rw [hl,w]
  by_cases z:j=m
  ·subst z;rw [zo,if_pos ⟨I.m1,by (first | exact jb | omega),sm⟩]
  ·rw [zu z,I.hl j];simp only [g j z]
 refine ⟨by (first | exact jr | omega),wl,fun j=>?_,.inr ?_⟩
 ·rw [hc,lm,cm]
  by_cases z:j=m
  ·subst z;rw [zo,if_pos ⟨I.m1,by (first | exact jb | omega),sm⟩];rfl
  ·rw [zu z,I.hc j];simp only [g j z]
 ·rcases I.hr with ⟨a,b⟩ | ⟨a,b,c,e⟩
  ·rw [hr,if_pos (.inl a)]
   refine ⟨I.m1,by (first | exact jb | omega),sm,fun j j1 j2 j3=>?_⟩
   rcases (show j<m\/j=m by exact vq j2) with z | z
   ·rw [b j j1 z] at j3;cases j3
   ·rw [z];exact Int.le_refl _
  ·have er:(l'' r).getD 0=lw l d r:=by rw [wl,if_pos ⟨a,by exact qp b,c⟩];rfl
   rw [w,er] at hr
   by_cases z:lw l d m<lw l d r
   ·rw [if_pos (.inr z)] at hr
    rw [hr]
    refine ⟨I.m1,by (first | exact jb | omega),sm,fun j j1 j2 j3=>?_⟩
    rcases (show j<m\/j=m by exact vq j2) with y | y
    ·have:=e j j1 y j3;(exact TN z this)
    ·rw [y];exact Int.le_refl _
   ·rw [if_neg (fun y=>y.elim (by exact YQ a) z)] at hr
    rw [hr]
    refine ⟨a,by exact qp b,c,fun j j1 j2 j3=>?_⟩
    rcases (show j<m\/j=m by exact vq j2) with y | y
    ·exact e j j1 y j3
    ·rw [y];(exact YS z)
theorem Af (Q:Sq cs n) {i:Nat} (i1:1<=i) (i2:i<=n) {d:Nat->Int} (hd:d=slk (cst cs) u v i) {P:VF->VS->Prop}
  (k:∀ l' ca' r o11 o12,L1 l l' ca ca' S d q (n+1) r->P .next (rsV cs u v ow n q l' ca' S (some (int i)) (some (int r)) o11 o12 o13)) :
  VW (jF (fun x ρ=>X 15 rb1 (ρ.set 11 (some x))) (yh 1 n) (rsV cs u v ow n q l ca S (some (int i)) (some (int 0)) o11 o12 o13)) P:=by
 refine qR (fun m ρ=>∃ l' ca' r o11 o12,ρ=rsV cs u v ow n q l' ca' S (some (int i)) (some (int (r:Nat))) o11 o12 o13/\L1 l l' ca ca' S d q m r) (n:=n+1) (fun m ρ hm z=>?_) (fun ρ z=>?_) n 1 _ (by (first | exact YO | omega)) ⟨l,ca,0,_,_,rfl,Nat.le_refl _,fun j=>by rw [if_neg (by omega)],fun j=>by rw [if_neg (by omega)],.inl ⟨rfl,fun j j1 j2=>by omega⟩⟩
 ·obtain ⟨l',ca',r,o11,o12,rfl,I⟩:=z
  have m1:=I.m1
  cases sm:S m with
  |true=>exact zq false (w7 (b:=true) (x_p (zB (y:=int m) (t:=bool true) rfl rfl (by rw [zG hm];show some (bool (S m))=_;rw [sm])) rfl) rfl) rfl (.ok ⟨l',ca',r,_,_,rfl,I.next sm⟩)
  |false =>
   refine Hq Q i1 i2 m1 (by exact kC hm) (r:=r) (by rcases I.hr with h | h <;> omega) sm (d:=d m) (by rw [hd]) (fun r0=>?_) fun l'' ca'' r' e1 e2 e3=>⟨l'',ca'',r',_,_,rfl,I.new sm e1 e2 e3⟩
   rcases I.hr with ⟨h,_⟩ | ⟨h1,h2,h3,_⟩
   ·exact absurd h r0
   ·exact ⟨_,by rw [I.hl,if_pos ⟨h1,h2,h3⟩]⟩
 ·obtain ⟨l',ca',r,o11,o12,rfl,I⟩:=z
  exact k l' ca' r o11 o12 I
end
end Mine
set_option maxRecDepth 40000
namespace Mine
open PySem (Operator UnaryOp CmpOp)
section
variable {cs:List (List Int)} {u v:Nat->Int} {ow:Nat->Nat} {n q:Nat} {l:Nat->Option Int} {ca:Nat->Nat} {S:Nat->Bool} {o9 o10 o11 o12 o13:Option Tr}
structure L2 (u v u' v':Nat->Int) (l l':Nat->Option Int) (ow:Nat->Nat) (S:Nat->Bool) (x:Nat->Int) (D:Int) (m:Nat):Prop where
 hu1:∀ s,s<m->S s=true->u' (ow s)=u (ow s)+D
 hu0:∀ i,(∀ s,s<m->S s=true->ow s≠i)->u' i=u i
 hv:∀ j,v' j=if j<m/\S j=true then v j-D else v j
 hl:∀ j,1<=j->j<m->S j=false->l' j=some (x j-D)
 hl0:∀ j,m<=j->l' j=l j
theorem Ae (hb:∀ j,j<=n->S j=true->ow j<=n) (inj:∀ j j',j<=n->j'<=n->S j=true->S j'=true->ow j=ow j'->j=j')
  {x:Nat->Int} (hx:∀ j,1<=j->j<=n->S j=false->l j=some (x j)) {D:Int} {P:VF->VS->Prop}
  (k:∀ u' v' l' o11,L2 u v u' v' l l' ow S x D (n+1)->P .next (rsV cs u' v' ow n q l' ca S o9 o10 o11 o12 (some (int D)))) :
  VW (jF (fun x ρ=>X 15 rb2 (ρ.set 11 (some x))) (yh 0 (n+1)) (rsV cs u v ow n q l ca S o9 o10 o11 o12 (some (int D)))) P:=by
 refine qR (fun m ρ=>∃ u' v' l' o11,ρ=rsV cs u' v' ow n q l' ca S o9 o10 o11 o12 (some (int D))/\L2 u v u' v' l l' ow S x D m) (n:=n+1) (fun m ρ hm z=>?_) (fun ρ z=>?_) (n+1) 0 _ (by (first | exact Cz | omega)) ⟨u,v,l,_,rfl,fun s hs=>by omega,fun i _=>rfl,fun j=>by rw [if_neg (by omega)],fun j _ hj=>by omega,fun j _=>rfl⟩
 ·obtain ⟨u',v',l',o11,rfl,I⟩:=z
  have es:∀ {b},S m=b->EP 15 (.sub (.loc 8) (.loc 11)) (rsV cs u' v' ow n q l' ca S o9 o10 (some (int m)) o12 (some (int D)))=.ok (bool b):=fun {b} e=>zB (y:=int m) rfl rfl (by rw [zG hm];show some (bool (S m))=_;rw [e])
  cases sm:S m with
  |true =>
   refine zq true (x_p (es sm) rfl) rfl ?_
   have om:=hb m (by exact kC hm) sm
   have um:u' (ow m)=u (ow m):=I.hu0 _ fun s hs hS e=>by
    have:=inj s m (by exact Cy hm hs) (by exact kC hm) hS sm e
    (exact YR hs this)
   have eo:∀ {u'},EP 15 (.sub (.loc 3) (.loc 11)) (rsV cs u' v' ow n q l' ca S o9 o10 (some (int m)) o12 (some (int D)))=.ok (int (ow m)):=fun {u'}=>zB (y:=int m) rfl rfl (zG hm)
   refine kq (g:=iT u') (k:=ow m) (t:=int (u' (ow m)+D)) (zN (y:=int D) (zB rfl eo (zG (by exact qn om))) rfl rfl) rfl eo (by exact qn om) rfl rfl ?_
   rw [vp int]
   refine kq (g:=iT v') (k:=m) (t:=int (v' m-D)) (zN (x:=int (v' m)) (y:=int D) (zB (x:=tA (n+1) (iT v')) (y:=int m) rfl rfl (zG hm)) rfl rfl) rfl rfl hm rfl rfl ?_
   rw [vp int]
   refine ⟨_,_,l',_,rfl,fun s hs hS=>?_,fun i hi=>?_,fun j=>?_,fun j a c e=>?_,fun j hj=>I.hl0 j (by exact Wc hj)⟩
   ·by_cases z:ow s=ow m
    ·rw [z,zo,um]
    ·rw [zu z]
     have:s≠m:=fun e=>z (by rw [e])
     exact I.hu1 s (by exact YN hs this) hS
   ·have:i≠ow m:=fun e=>hi m (by (first | exact jb | omega)) sm e.symm
    rw [zu this]
    exact I.hu0 i fun s hs hS=>hi s (by exact qp hs) hS
   ·by_cases z:j=m
    ·subst z
     rw [zo,if_pos ⟨by (first | exact jb | omega),sm⟩,I.hv,if_neg (by omega)]
    ·rw [zu z,I.hv]
     simp only [show (j<m+1/\S j=true)=(j<m/\S j=true) from propext ⟨fun h=>⟨by omega,h.2⟩,fun h=>⟨by omega,h.2⟩⟩]
   ·have:j≠m:=fun z=>by rw [z,sm] at e;cases e
    exact I.hl j a (by exact YN c this) e
  |false =>
   refine zq false (x_p (es sm) rfl) rfl ?_
   have nm:∀ s,S s=true->s≠m:=fun s hS z=>by rw [z,sm] at hS;cases hS
   have vst:∀ j,v' j=if j<m+1/\S j=true then v j-D else v j:=fun j=>by
    rw [I.hv]
    simp only [show (j<m+1/\S j=true)=(j<m/\S j=true) from propext ⟨fun h=>⟨by have:=nm j h.2;omega,h.2⟩,fun h=>⟨by omega,h.2⟩⟩]
   have ust:∀ s,s<m+1->S s=true->u' (ow s)=u (ow s)+D:=fun s hs hS=>I.hu1 s (by have:=nm s hS;(exact YN hs this)) hS
   have us0:∀ i,(∀ s,s<m+1->S s=true->ow s≠i)->u' i=u i:=fun i hi=>I.hu0 i fun s hs hS=>hi s (by exact qp hs) hS
   by_cases m0:(m:Int)>0
   ·refine zq true (x_p (zJ (x:=int m) (y:=int 0) rfl rfl (by show some (decide ((m:Int)>0))=_;rw [decide_eq_true m0])) rfl) rfl ?_
    have e1:l' m=some (x m):=by rw [I.hl0 m (Nat.le_refl _),hx m (by exact Cw m0) (by exact kC hm) sm]
    refine kq (g:=oTr l') (k:=m) (t:=oV (some (x m-D))) (zN (x:=int (x m)) (y:=int D) (zB (y:=int m) rfl rfl (by rw [zG hm];show some (oV (l' m))=_;rw [e1];rfl)) rfl rfl) rfl rfl hm rfl rfl ?_
    rw [vp oV]
    refine ⟨u',v',_,_,rfl,ust,us0,vst,fun j a c e=>?_,fun j hj=>?_⟩
    ·by_cases z:j=m
     ·rw [z,zo]
     ·rw [zu z];exact I.hl j a (by exact uh c z) e
    ·rw [zu (by exact Cv hj)];exact I.hl0 j (by exact Wc hj)
   ·refine zq false (x_p (zJ (x:=int m) (y:=int 0) rfl rfl (by show some (decide ((m:Int)>0))=_;rw [decide_eq_false m0])) rfl) rfl ?_
    exact .ok ⟨u',v',l',_,rfl,ust,us0,vst,fun j a c=>by omega,fun j hj=>I.hl0 j (by exact Wc hj)⟩
 ·obtain ⟨u',v',l',o11,rfl,I⟩:=z
  exact k u' v' l' o11 I
noncomputable def rwb:zk :=
 (.cons (.asub (.loc 8) (.loc 5) (.const (.bool true)))
 (.cons (.assign 9 (.sub (.loc 3) (.loc 5)))
 (.cons (.assign 10 (.const (.int 0)))
 (.cons (.fors (.loc 11) (.irange2 (.const (.int 1)) (.bin .Add (.loc 4) (.const (.int 1)))) rb1)
 (.cons (.assign 13 (.sub (.loc 6) (.loc 10)))
 (.cons (.fors (.loc 11) (.irange (.bin .Add (.loc 4) (.const (.int 1)))) rb2)
 (.cons (.assign 5 (.loc 10))
 .nil)))))))
theorem Hp (Q:Sq cs n) (hn:n<=100) {kk t:Nat} {rk:Nat->Nat} (O:Vw n kk ow) (T:Tree n kk (cst cs) ow q t S l ca u v rk) (hq:ow q≠0) {P:VF->VS->Prop}
  (k:∀ q S l ca u v rk o9 o10 o11 o12 o13,Tree n kk (cst cs) ow q (t+1) S l ca u v rk->P .next (rsV cs u v ow n q l ca S o9 o10 o11 o12 o13)):VW (X 15 rwb (rsV cs u v ow n q l ca S o9 o10 o11 o12 o13)) P:=by
 have q_le:=T.q_le
 have oq:=O.bound q_le
 have ole:=O.le
 refine kq (g:=bT S) (k:=q) (t:=bool true) rfl rfl rfl (by exact qn q_le) rfl rfl ?_
 rw [vp bool]
 refine yn (t:=int (ow q)) (zB (x:=tA (n+1) (nT ow)) (y:=int q) rfl rfl (zG (by exact qn q_le))) rfl rfl rfl ?_
 refine yn (t:=int 0) rfl rfl rfl rfl ?_
 refine yI (ts:=yh 1 n) (U0 (x:=int 1) (y:=int ((n:Int)+1)) rfl rfl (GL (by exact Cu hn))) rfl ?_
 obtain ⟨d,hd⟩:∃ d,d=slk (cst cs) u v (ow q):=⟨_,rfl⟩
 refine Af (S:=upd S q true) Q (i:=ow q) (by exact V8 hq) (by exact DI oq ole) hd fun l2 ca2 r o11 o12 I=>?_
 obtain ⟨fj,f1,f2,f3⟩:=O.free
 have frS:upd S q true fj=false:=by
  have ne:fj≠q:=fun z=>by rw [z] at f3;exact hq f3
  rw [zu ne]
  cases e:S fj with
  |false=>rfl
  |true=>exact (T.S_own fj f2 e f3).elim
 rcases I.hr with ⟨r0,ra⟩ | ⟨r1,r2,r3,r4⟩
 ·have:=ra fj f1 (by exact qn f2);rw [frS] at this;cases this
 have el:l2 r=some (lw l d r):=by rw [I.hl,if_pos ⟨r1,r2,r3⟩]
 refine yn (t:=int (lw l d r)) (zB (x:=tA (n+1) (oTr l2)) (y:=int r) rfl rfl (by rw [zG r2];show some (oV (l2 r))=_;rw [el];rfl)) rfl rfl rfl ?_
 refine yI (ts:=yh 0 (n+1)) (Jq (x:=int ((n:Int)+1)) rfl (GM (n:=n+1) (by exact Ct hn))) rfl ?_
 have Sow:∀ j,j<=n->upd S q true j=true->ow j≠0:=fun j hj hS=>by
  by_cases z:j=q
  ·rw [z];exact hq
  ·rw [zu z] at hS;exact T.S_own j hj hS
 refine Ae (S:=upd S q true) (D:=lw l d r) (fun j hj _=>by have:=O.bound hj;(exact DH ole this)) (fun j j' hj hj' hS hS' e=>O.inj j j' hj hj' (Sow j hj hS) e) (x:=lw l d) (fun j a c e=>by rw [I.hl,if_pos ⟨a,by exact qn c,e⟩]) fun u' v' l' o11 J=>?_
 refine VW.ok (k r (upd S q true) l' ca2 u' v' (upd rk r (t+1)) _ _ _ _ _ ?_)
 subst hd
 have lt1:∀ {j},j<=n->j<n+1:=fun hj=>lt_succ_of_le hj
 have leI:∀ j (p:Prop),(j<=n/\p)=(j<n+1/\p):=fun j p=>propext ⟨fun h=>⟨lt1 h.1,h.2⟩,fun h=>⟨le_of_lt_succ h.1,h.2⟩⟩
 refine T.step O hq r1 (by exact kC r2) r3 (fun j a c e=>r4 j a (lt1 c) e) (fun j=>?_) (fun j a c e=>J.hl j a (lt1 c) e) (fun s hs hS=>J.hu1 s (lt1 hs) hS) (fun i hi=>J.hu0 i fun s hs hS=>hi s (by exact kC hs) hS) (fun j=>?_)
 ·rw [I.hc];simp only [leI]
 ·rw [J.hv];simp only [leI]
end
noncomputable def Rt (Q:Tr->VS->Prop) (p:VF) (ρ:VS):Prop:=match p with
 | .next=>Q (.sc .none) ρ
 | .ret t=>Q t ρ
theorem z9 {f:Nat} {ts:List Tr} {d:zr} (h1:F f=some d) (h2:ts.length=d.np) (h3:Nat.beq (sg f).ps.length d.np=true) (h4:Nat.ble (d.np+d.ns) 1000000=true) (h6:npO f=d.np):vc f ts=qr (X f d.body (ts.map some++List.replicate (d.ns-d.np) none)):=by
 show (cond (Nat.blt (sg f).rk (sg f).rk) (vcN F sg 100 (sg f).rk f ts) (cond (Nat.beq (sg f).rk (sg f).rk) (vQ F sg 100 (XC f) f ts) .stuck))=_
 rw [show Nat.blt (sg f).rk (sg f).rk=false from by unfold Nat.blt;rw [<- Bool.not_eq_true,Nat.ble_eq];(first | exact Cs | omega),show Nat.beq (sg f).rk (sg f).rk=true from beq_refl _]
 show vQ F sg 100 (XC f) f ts=_
 unfold vQ
 rw [h1]
 show cond (Nat.beq ts.length d.np&&Nat.beq (sg f).ps.length d.np&&Nat.ble (d.np+d.ns) 1000000) _ _=_
 rw [h2,beq_refl,h3,h4]
 show qr (qD sg (sg f).sh (XC f) d.np (sg f).rs 100 d.body _)=qr (qD sg (sg f).sh (XC f) (npO f) (sg f).rs 100 d.body _)
 rw [h6]
theorem zS {f:Nat} {ts:List Tr} {d:zr} {Q:Tr->VS->Prop} (h1:F f=some d) (h2:ts.length=d.np) (h3:Nat.beq (sg f).ps.length d.np=true) (h4:Nat.ble (d.np+d.ns) 1000000=true) (h6:npO f=d.np)
  (w:VW (X f d.body (ts.map some++List.replicate (d.ns-d.np) none)) (Rt Q)):VW (vc f ts) Q:=by
 rw [z9 h1 h2 h3 h4 h6]
 exact VW.bind w fun p ρ q=>match p,q with
  | .next,q=>.ok q
  | .ret _,q=>.ok q
section
variable {cs:List (List Int)} {u v:Nat->Int} {ow:Nat->Nat} {n:Nat}
noncomputable def Hg (n k:Nat) (cs:List (List Int)) (ow:Nat->Nat) (r:Tr) (ρ:VS):Prop :=
 ∃ q t S l ca u v rk,r=.nd .tup [int (q:Nat),tA (n+1) (nT ca)]/\ρ[1]?=some (some (tA (n+1) (iT u)))/\ρ[2]?=some (some (tA (n+1) (iT v)))/\Tree n k (cst cs) ow q t S l ca u v rk/\ow q=0
theorem Yt (Q:Sq cs n) (hn:n<=50) {k:Nat} (O:Vw n k ow) (tight:∀ j,1<=j->j<=n->ow j≠0->cst cs (ow j) j=u (ow j)+v j) (feas:∀ i j,1<=i->i<k->1<=j->j<=n->u i+v j<=cst cs i j) :
  VW (vc 15 [tII cs,tA (n+1) (iT u),tA (n+1) (iT v),tA (n+1) (nT ow)]) (Hg n k cs ow):=by
 refine zS (d:=WD) rfl rfl rfl rfl rfl ?_
 refine yn (t:=int n) (by show Ex.ok (int ((cs.map tI).length:Nat))=_;rw [length_map,Q.np]) rfl rfl rfl ?_
 refine yn (t:=int 0) rfl rfl rfl rfl ?_
 refine vO (n:=n+1) rfl (by exact Qn hn) rfl rfl ?_
 refine vO (n:=n+1) rfl (by exact Qn hn) rfl rfl ?_
 refine vO (n:=n+1) rfl (by exact Qn hn) rfl rfl ?_
 refine Hj ?_
 have T0:Tree n k (cst cs) ow 0 0 (fun _=>false) (fun _=>none) (fun _=>0) u v (fun _=>0) :=
  ⟨by (first | exact Wa | omega),rfl,fun h=>by exact Cr h,fun j _ h=>(by cases h),fun _=>⟨rfl,fun _=>rfl,fun _=>rfl⟩,fun h=>by omega,tight,fun i j i1 i2 j1 j2=>feas i j i1 (by exact Cq i2) j1 j2,fun h=>by omega,
   fun j j1 _ h=>(by rcases h with h | h;cases h;omega),rfl,fun j _ h=>(by cases h),by simp [vH]⟩
 refine wC (fun m ρ=>∃ q t S l ca u v rk o9 o10 o11 o12 o13,ρ=rsV cs u v ow n q l ca S o9 o10 o11 o12 o13/\Tree n k (cst cs) ow q t S l ca u v rk/\m+t=n+1) (fun m ρ z=>?_) 100 (n+1) _ (by exact Cp hn) ⟨0,0,_,_,_,u,v,_,none,none,none,none,none,rfl,T0,rfl⟩
 obtain ⟨q,t,S,l,ca,u,v,rk,o9,o10,o11,o12,o13,rfl,T,em⟩:=z
 have q_le:=T.q_le
 have ec:EX 15 (.cmp .NotEq (.sub (.loc 3) (.loc 5)) (.const (.int 0))) (rsV cs u v ow n q l ca S o9 o10 o11 o12 o13)=.ok (bool (!((ow q:Int)==0))) _:=yk (x_p (zB (y:=int q) rfl rfl (zG (by exact qn q_le))) rfl) (y:=int 0) rfl rfl
 show VW ((EX 15 _ _).bind _) _
 rw [ec]
 refine VW.ok ?_
 by_cases hq:ow q=0
 ·rw [show (!((ow q:Int)==0))=false from by rw [hq];rfl]
  exact VW.ok ⟨q,t,S,l,ca,u,v,rk,rfl,rfl,rfl,T,hq⟩
 ·rw [show (!((ow q:Int)==0))=true from by rw [beq_false_of_ne (by exact YT hq)];rfl]
  refine Hp Q (by exact Co hn) O T hq fun q S l ca u v rk o9 o10 o11 o12 o13 T'=>⟨m-1,?_,q,t+1,S,l,ca,u,v,rk,_,_,_,_,_,rfl,T',?_⟩
  all_goals
   have:=Jy (m:=n+1) T.q_new (by exact qn q_le)
   rw [T.cnt] at this
   (first | exact Cm em this | exact Ck em this | omega)
end
noncomputable def ES (f:Nat) (e:za) (ρ:VS):Ex (List Tr):=(zK sg (sg f).sh (XC f) e).Es ρ
theorem XS {g:Nat} {ts:List Tr}:∀ n,Nat.blt (sg g).rk n=true->vcN F sg 100 n g ts=vc g ts
 | 0,l=>nomatch l
 |n+1,l=>by
  show (cond (Nat.blt (sg g).rk n) (vcN F sg 100 n g ts) (cond (Nat.beq (sg g).rk n) (vQ F sg 100 (vcN F sg 100 n) g ts) .stuck))=_
  cases e:Nat.blt (sg g).rk n with
  |true=>exact XS n e
  |false =>
   have l1:(sg g).rk+1<=n+1:=le_of_ble_eq_true l
   have l2:¬ (sg g).rk+1<=n:=fun z=>by rw [show Nat.blt (sg g).rk n=true from ble_eq_true_of_le z] at e;cases e
   have:n=(sg g).rk:=by exact Cj l1 l2
   subst this
   unfold vc
   show _=(cond (Nat.blt (sg g).rk (sg g).rk) _ _)
   rw [e]
section
variable {f g:Nat} {args:za} {ts:List Tr} {t:Tr} {ρ ρc:VS}
theorem JI (l:Nat.blt (sg g).rk (sg f).rk=true):XC f g ts=vc g ts:=XS _ l
theorem zF (hes:ES f args ρ=.ok ts) (l:Nat.blt (sg g).rk (sg f).rk=true) (ok:(okX (sg f).sh (npO f) (sg g).ps (qL args) ts&&!ts.isEmpty)=true) (hc:vc g ts=.ok t ρc):EX f (.call g args) ρ=.ok t (back (sg f).sh (sg g).ps (qL args) ρc ρ):=by
 show ((ES f args ρ).on ρ).bind _=_
 rw [hes]
 show cond (okX (sg f).sh (npO f) (sg g).ps (qL args) ts&&!ts.isEmpty) (WM (XC f g ts) fun ρc=>back (sg f).sh (sg g).ps (qL args) ρc ρ) .stuck=_
 rw [ok,JI l,hc];rfl
theorem qh {c:Nat} (hes:ES f args ρ=.ok ts) (l:Nat.blt (sg g).rk (sg f).rk=true) (ok:(okX (sg f).sh (npO f) (sg g).ps (qL args) ts&&!ts.isEmpty)=true) (hc:vc g ts=.exc c ρc):EX f (.call g args) ρ=.exc c (back (sg f).sh (sg g).ps (qL args) ρc ρ):=by
 show ((ES f args ρ).on ρ).bind _=_
 rw [hes]
 show cond (okX (sg f).sh (npO f) (sg g).ps (qL args) ts&&!ts.isEmpty) (WM (XC f g ts) fun ρc=>back (sg f).sh (sg g).ps (qL args) ρc ρ) .stuck=_
 rw [ok,JI l,hc];rfl
theorem zy (hes:ES f args ρ=.ok ts) (l:Nat.blt (sg g).rk (sg f).rk=true) (ok:(j8 (sg g).ps (jQ (sg f).sh args) ts&&!ts.isEmpty)=true) (hc:vc g ts=.ok t ρc):EP f (.call g args) ρ=.ok t:=by
 show (ES f args ρ).bind _=_
 rw [hes]
 show cond (j8 (sg g).ps (jQ (sg f).sh args) ts&&!ts.isEmpty) (Zt (XC f g ts)) .stuck=_
 rw [ok,JI l,hc];rfl
theorem XQ {xs:List Nat} {e:za} {r:zk} {us:List Tr} {ρ1 ρ2:VS} {Q:VF->VS->Prop} (h:EX f e ρ=.ok (.nd .tup us) ρ1) (hi:(cls (sg f).sh e).isI=true) (hb:jR (sg f).sh xs us ρ1=some ρ2) (k:Nr f r Q ρ2):VW (X f (.cons (.atup xs e) r) ρ) Q:=by
 refine yJ ?_
 show VW ((EX f e ρ).bind fun t ρ=>((cond (cls (sg f).sh e).isI ((Ex.opt (Ue t)).bind fun ts=>Ex.opt (jR (sg f).sh xs ts ρ)) .stuck).on ρ).bind fun ρ' _=>.ok VF.next ρ') _
 rw [h]
 show VW (((cond (cls (sg f).sh e).isI (Ex.opt (jR (sg f).sh xs us ρ1)) .stuck).on ρ1).bind fun ρ' _=>.ok VF.next ρ') _
 rw [hi,hb];exact .ok k
end
noncomputable def cwb:zk:=(.cons (.asub (.loc 4) (.loc 6) (.sub (.loc 4) (.sub (.loc 7) (.loc 6)))) (.cons (.assign 6 (.sub (.loc 7) (.loc 6))) .nil))
noncomputable def cfb:zk :=
 (.cons (.asub (.loc 4) (.const (.int 0)) (.loc 5))
 (.cons (.atup [6,7] (.call 15 (.cons (.loc 0) (.cons (.loc 2) (.cons (.loc 3) (.cons (.loc 4) .nil))))))
 (.cons (.whiles (.cmp .NotEq (.loc 6) (.const (.int 0))) cwb)
 .nil)))
noncomputable def cpb:zk:=(.cons (.asub (.loc 8) (.bin .Sub (.sub (.loc 4) (.loc 6)) (.const (.int 1))) (.bin .Sub (.loc 6) (.const (.int 1)))) .nil)
noncomputable def cpV (cs:List (List Int)) (n:Nat) (u v:Nat->Int) (ow:Nat->Nat) (o5 o6 o7 o8:Option Tr):VS:=[some (tII cs),some (int n),some (tA (n+1) (iT u)),some (tA (n+1) (iT v)),some (tA (n+1) (nT ow)),o5,o6,o7,o8]
section
variable {cs:List (List Int)} {n:Nat} {u v:Nat->Int} {l:Nat->Option Int} {ca:Nat->Nat} {S:Nat->Bool} {o5 o6 o7 o8:Option Tr}
theorem aug {k t q0:Nat} {ow0:Nat->Nat} {rk:Nat->Nat} (T:Tree n k (cst cs) ow0 q0 t S l ca u v rk) (Ho:uW n k (cst cs) ow0 S rk u v q0 q0 ow0) (ht:t<100) {P:VF->VS->Prop}
  (kk:∀ o,uW n k (cst cs) ow0 S rk u v q0 0 o->P .next (cpV cs n u v o o5 (some (int 0)) (some (tA (n+1) (nT ca))) o8)) :
  VW (jU (fun ρ=>(EX 16 (.cmp .NotEq (.loc 6) (.const (.int 0))) ρ).bind fun t ρ=>(Ex.opt (zd t)).on ρ) (X 16 cwb) 100 (cpV cs n u v ow0 o5 (some (int q0)) (some (tA (n+1) (nT ca))) o8)) P:=by
 refine wC (fun m ρ=>∃ (q:Nat) (o:Nat->Nat),ρ=cpV cs n u v o o5 (some (int q)) (some (tA (n+1) (nT ca))) o8/\uW n k (cst cs) ow0 S rk u v q0 q o/\m=rk q) (fun m ρ z=>?_) 100 (rk q0) _ (by rw [T.rkq];exact ht) ⟨q0,ow0,rfl,Ho,rfl⟩
 obtain ⟨q,o,rfl,Ho,rfl⟩:=z
 refine VW.ok (a:=!((q:Int)==0)) ?_
 by_cases hq:q=0
 ·subst hq;exact kk o Ho
 ·rw [beq_false_of_ne (show (q:Int)≠0 by exact YT hq)]
  obtain ⟨c1,c2,Ho'⟩:=Ho.next T hq
  have ql:=Ho.q_le
  have e7:∀ {o},EP 16 (.sub (.loc 7) (.loc 6)) (cpV cs n u v o o5 (some (int q)) (some (tA (n+1) (nT ca))) o8)=.ok (int (ca q)):=fun {o}=>zB (y:=int q) rfl rfl (zG (by exact qn ql))
  refine kq (g:=nT o) (k:=q) (t:=int (o (ca q))) (zB rfl e7 (zG (by exact qn c1))) rfl rfl (by exact qn ql) rfl rfl ?_
  rw [vp (fun j:Nat=>int (j:Int))]
  refine yn (e7 (o:=upd o q (o (ca q)))) rfl rfl rfl ?_
  exact ⟨rk (ca q),c2,ca q,_,rfl,Ho',rfl⟩
structure Tj (c:Nat->Nat->Int) (n:Nat) (pl:Nat->Nat) (a b:Nat->Int):Prop where
 lt:∀ i,i<n->pl i<n
 inj:∀ i i',i<n->i'<n->pl i=pl i'->i=i'
 le:∀ i j,i<n->j<n->a i+b j<=c i j
 eq:∀ i,i<n->a i+b (pl i)=c i (pl i)
noncomputable def FP (n k:Nat) (cs:List (List Int)) (ρ:VS):Prop:=1<=k/\∃ ow u v o5 o6 o7,ρ=cpV cs n u v ow o5 o6 o7 none/\Mat n k (cst cs) ow u v
theorem Ez (Q:Sq cs n) (hn:n<=50) {k:Nat} (hk:k<n+1) {ρ:VS} (I:FP n k cs ρ) {P:VF->VS->Prop} (kk:∀ ρ,FP n (k+1) cs ρ->P .next ρ):VW (X 16 cfb (ρ.set 5 (some (int k)))) P:=by
 obtain ⟨k1,ow,u,v,o5,o6,o7,rfl,M⟩:=I
 have O:=M.own (by exact Ci k1) (show k<=n by exact kC hk)
 refine kq (g:=nT ow) (k:=0) (t:=int k) rfl rfl rfl (by (first | exact TL | omega)) rfl rfl ?_
 rw [vp (fun j:Nat=>int (j:Int))]
 have tight:∀ j,1<=j->j<=n->upd ow 0 k j≠0->cst cs (upd ow 0 k j) j=u (upd ow 0 k j)+v j:=fun j j1 j2 h=>by
  rw [zu (by exact v8 j1)] at h ⊢;exact M.tight j j1 j2 h
 obtain ⟨r,ρc,er,q,t,S,l,ca,u2,v2,rk,rfl,e1,e2,T2,hq⟩:=(Yt Q hn O tight M.feas).get
 have Ho:=uW.first M O T2 hq
 have q0:q≠0:=fun z=>by rw [z,zo] at hq;(exact YQ k1 hq)
 have tp:0<t:=by
  rcases eq_zero_or_pos t with z | z
  ·exact (q0 (T2.first z).1).elim
  ·exact z
 have tl:t<n+1:=by
  have:=Jy (m:=n+1) T2.q_new (by have:=T2.q_le;(exact qn this))
  rw [T2.cnt] at this;exact this
 refine XQ (ρ2:=cpV cs n u2 v2 (upd ow 0 k) (some (int k)) (some (int q)) (some (tA (n+1) (nT ca))) none) (zF (ts:=[tII cs,tA (n+1) (iT u),tA (n+1) (iT v),tA (n+1) (nT (upd ow 0 k))]) rfl rfl rfl er) rfl ?_ ?_
 ·show jR (sg 16).sh [6,7] [int q,tA (n+1) (nT ca)] (List.set (List.set (cpV cs n u v (upd ow 0 k) (some (int k)) o6 o7 none) 2 (ρc.getD 1 none)) 3 (ρc.getD 2 none))=_
  rw [getD_eq_getElem?_getD,getD_eq_getElem?_getD,e1,e2];rfl
 ·refine Hj ?_
  exact aug T2 Ho (by exact Ch hn tl) fun o Ho3=>kk _ ⟨by (first | exact jr | omega),o,u2,v2,_,_,_,rfl,Ho3.mat T2 tp⟩
end
section
variable {cs:List (List Int)} {n:Nat}
noncomputable def PP (cs:List (List Int)) (n:Nat) (u v:Nat->Int) (ow:Nat->Nat) (k:Nat) (ρ:VS):Prop:=1<=k/\∃ pl o5 o6 o7,ρ=cpV cs n u v ow o5 o6 o7 (some (tA n (nT pl)))/\∀ j,1<=j->j<k->pl (ow j-1)=j-1
theorem GQ {u v:Nat->Int} {ow:Nat->Nat} {k:Nat} (M:Mat n (n+1) (cst cs) ow u v) (hk:k<n+1) {ρ:VS} (I:PP cs n u v ow k ρ) {P:VF->VS->Prop} (kk:∀ ρ,PP cs n u v ow (k+1) ρ->P .next ρ):VW (X 16 cpb (ρ.set 6 (some (int k)))) P:=by
 obtain ⟨k1,pl,o5,o6,o7,rfl,hp⟩:=I
 have full:=M.full k1 (show k<=n by exact kC hk)
 have lt:=M.lt k k1 (by exact kC hk)
 refine kq (g:=nT pl) (k:=ow k-1) (t:=int ((k-1:Nat):Int)) (by rw [show ((k-1:Nat):Int)=(k:Int)-1 by exact Cg k1];rfl) rfl (by rw [show ((ow k-1:Nat):Int)=(ow k:Int)-1 by exact Cf full];exact zN (zB (y:=int k) rfl rfl (zG (by exact Ce hk))) (y:=int 1) rfl rfl) (by exact Cd full lt) rfl rfl ?_
 rw [vp (fun j:Nat=>int (j:Int))]
 refine kk _ ⟨by (first | exact jr | omega),upd pl (ow k-1) (k-1),_,_,_,rfl,fun j j1 j2=>?_⟩
 by_cases z:j=k
 ·subst z;rw [zo]
 ·have fj:=M.full j1 (show j<=n by exact TH hk j2)
  have:ow j-1≠ow k-1:=fun w=>z (M.inj j k j1 (by exact TH hk j2) k1 (by exact kC hk) fj (by exact Cb full fj w))
  rw [zu this];exact hp j j1 (by exact uh j2 z)
theorem Tc {costs:List (List Int)} {ow:Nat->Nat} {u v:Nat->Int} (M:Mat n (n+1) (cst costs) ow u v) {pl:Nat->Nat} (hp:∀ j,1<=j->j<n+1->pl (ow j-1)=j-1):Tj (bA costs) n pl (fun i=>u (i+1)) (fun j=>v (j+1)):=by
 have key:∀ i,i<n->∃ j,1<=j/\j<=n/\ow j=i+1/\pl i=j-1:=fun i hi=>by
  obtain ⟨j,j1,j2,e⟩:=M.sur (i+1) (by (first | exact jr | omega)) (by exact GT hi)
  have:=hp j j1 (by exact qn j2)
  rw [e,show i+1-1=i by (first | exact Ca | omega)] at this
  exact ⟨j,j1,j2,e,this⟩
 refine ⟨fun i hi=>?_,fun i i' hi hi' e=>?_,fun i j hi hj=>?_,fun i hi=>?_⟩
 ·obtain ⟨j,j1,j2,e,p⟩:=key i hi;(exact B9 j1 j2 p)
 ·obtain ⟨j,j1,j2,e1,p⟩:=key i hi
  obtain ⟨j',j1',j2',e2,p'⟩:=key i' hi'
  have:j=j':=by exact B8 e j1 p j1' p'
  subst this;(exact B7 e1 e2)
 ·have:=M.feas (i+1) (j+1) (by (first | exact jr | omega)) (by exact GT hi) (by (first | exact jr | omega)) (by exact om1 hj)
  simpa [cst] using this
 ·obtain ⟨j,j1,j2,e,p⟩:=key i hi
  have:=M.tight j j1 j2 (by exact B6 e)
  rw [e] at this
  rw [p]
  show u (i+1)+v (j-1+1)=_
  rw [show j-1+1=j by exact B4 j1,<- this]
  simp [cst]
theorem KN (Q:Sq cs n) (hn:n<=50):VW (vc 16 [tII cs]) fun r _=>∃ pl x y,r=tA n (nT pl)/\Tj (bA cs) n pl x y:=by
 refine zS (d:=uE) rfl rfl rfl rfl rfl ?_
 refine yn (t:=int n) (by show Ex.ok (int ((cs.map tI).length:Nat))=_;rw [length_map,Q.np]) rfl rfl rfl ?_
 refine vO (n:=n+1) rfl (by exact Qn hn) rfl rfl ?_
 refine vO (n:=n+1) rfl (by exact Qn hn) rfl rfl ?_
 refine vO (n:=n+1) rfl (by exact Qn hn) rfl rfl ?_
 refine yI (ts:=yh 1 n) (U0 (x:=int 1) (y:=int ((n:Int)+1)) rfl rfl (GL (by exact V7 hn))) rfl ?_
 refine qR (FP n · cs) (n:=n+1) (fun m ρ hm z=>Ez Q hn hm z fun _ z=>z) (fun ρ z=>?_) n 1 _ (by (first | exact YO | omega)) ⟨Nat.le_refl _,fun _=>0,fun _=>0,fun _=>0,none,none,none,rfl,fun j _ _=>Nat.zero_lt_one,fun j j' _ _ _ _ h=>(h rfl).elim,fun i i1 i2=>by omega,fun j _ _ h=>(h rfl).elim,fun i j i1 i2=>by exact B3 i1 i2⟩
 obtain ⟨_,ow,u,v,o5,o6,o7,rfl,M⟩:=z
 refine vO (n:=n) rfl (by exact V7 hn) rfl rfl ?_
 refine yI (ts:=yh 1 n) (U0 (x:=int 1) (y:=int ((n:Int)+1)) rfl rfl (GL (by exact V7 hn))) rfl ?_
 refine qR (PP cs n u v ow) (n:=n+1) (fun m ρ hm z=>GQ M hm z fun _ z=>z) (fun ρ z=>?_) n 1 _ (by (first | exact YO | omega)) ⟨Nat.le_refl _,_,_,_,_,rfl,fun j j1 j2=>by exact B2 j1 j2⟩
 obtain ⟨_,pl,o5,o6,o7,rfl,hp⟩:=z
 exact .ok ⟨pl,_,_,rfl,Tc M hp⟩
end
theorem QL {S:Nat->Bool}:∀ {m:Nat},(∀ j,j<m->S j=true)->vH S m=m
 | 0,_=>by simp [vH]
 |m+1,h=>by rw [wX,QL fun j hj=>h j (by exact qp hj),if_pos (h m (by (first | exact jb | omega)))]
theorem ZY {S:Nat->Bool} {g:Nat->Int}:∀ {m:Nat},(∃ j,j<m/\S j=false)->∃ x,x<m/\S x=false/\∀ j,j<m->S j=false->g j<=g x
 | 0,⟨j,hj,_⟩=>by omega
 |m+1,⟨j,hj,hS⟩=>by
  by_cases z:∃ j,j<m/\S j=false
  ·obtain ⟨x,x1,x2,x3⟩:=ZY (g:=g) z
   by_cases w:S m=false/\g x<g m
   ·refine ⟨m,by (first | exact jb | omega),w.1,fun i hi hs=>?_⟩
    rcases (show i<m\/i=m by exact vq hi) with y | rfl
    ·have:=x3 i y hs;omega
    ·(first | exact YM | omega)
   ·refine ⟨x,by exact qp x1,x2,fun i hi hs=>?_⟩
    rcases (show i<m\/i=m by exact vq hi) with y | rfl
    ·exact x3 i y hs
    ·by_cases v:g x<g i
     ·exact (w ⟨hs,v⟩).elim
     ·(exact YS v)
  ·have:j=m:=by
    rcases (show j<m\/j=m by exact vq hj) with y | y
    ·exact (z ⟨j,y,hS⟩).elim
    ·exact y
   subst this
   refine ⟨j,by (first | exact jb | omega),hS,fun i hi hs=>?_⟩
   rcases (show i<j\/i=j by exact vq hi) with y | rfl
   ·exact (z ⟨i,y,hs⟩).elim
   ·(first | exact YM | omega)
structure Stl (n:Nat) (mo:Nat->Nat->Int) (φ:Nat->Int) (t:Nat) (S:Nat->Bool) (p:Nat->Int):Prop where
 cnt:vH S n=t
 top:∀ i j,i<n->j<n->S i=true->S j=false->p j-φ j<=p i-φ i
 rel:∀ i j,i<n->j<n->S i=true->p i+mo i j<=p j
structure Rnd (n:Nat) (mo:Nat->Nat->Int) (φ:Nat->Int) (S:Nat->Bool) (x:Nat) (p0:Nat->Int) (a b:Nat) (p:Nat->Int):Prop where
 up:∀ j,j<n->p0 j<=p j
 same:∀ j,j<n->(S j=true\/j=x)->p j=p0 j
 low:∀ j,j<n->S j=false->p j-φ j<=p0 x-φ x
 rel:∀ j,j<n->(x<a\/(x=a/\j<b))->p x+mo x j<=p j
noncomputable def vk (a b:Int):Int:=if b>a then b else a
theorem Rnd.step {n:Nat} {mo:Nat->Nat->Int} {φ:Nat->Int} {t:Nat} {S:Nat->Bool} {x:Nat} {p0 p:Nat->Int} {a b:Nat} (T:Stl n mo φ t S p0) (hx:x<n) (xS:S x=false) (hφ:∀ i j,i<n->j<n->mo i j<=φ j-φ i) (ha:a<n) (hb:b<n)
  (R:Rnd n mo φ S x p0 a b p):Rnd n mo φ S x p0 a (b+1) (upd p b (vk (p b) (p a+mo a b))):=by
 have g1:p b<=vk (p b) (p a+mo a b):=by unfold vk;split <;> (first | exact B1 ‹_› | exact YM | omega)
 have g2:p a+mo a b<=vk (p b) (p a+mo a b):=by unfold vk;split <;> (first | exact B0 | exact BZ ‹_› | omega)
 have g3:p a+mo a b<=p b->vk (p b) (p a+mo a b)=p b:=fun h=>by unfold vk;rw [if_neg (by exact BY h)]
 have g4:∀ c,p b<=c->p a+mo a b<=c->vk (p b) (p a+mo a b)<=c:=fun c h1 h2=>by unfold vk;split <;> (first | exact BX h2 | exact BW h1 | omega)
 have hm:=hφ a b ha hb
 have la:S a=true->p a+mo a b<=p b:=fun h=>by
  have e:=R.same a ha (Or.inl h)
  have:=T.rel a b ha hb h
  have:=R.up b hb
  (exact BV e ‹_› this)
 have eqb:S b=true\/b=x->vk (p b) (p a+mo a b)=p b:=fun h=>by
  refine g3 ?_
  cases sa:S a with
  |true=>exact la sa
  |false =>
   have l:=R.low a ha sa
   have e:=R.same b hb h
   rcases h with h | h
   ·have:=T.top b x hb hx h xS;(exact BU hm l e this)
   ·rw [h] at e hm ⊢;(exact BS hm l e)
 have px:upd p b (vk (p b) (p a+mo a b)) x=p x:=by
  by_cases z:x=b
  ·rw [z,zo];exact eqb (Or.inr z.symm)
  ·rw [zu z]
 refine ⟨fun j hj=>?_,fun j hj h=>?_,fun j hj h=>?_,fun j hj h=>?_⟩
 ·by_cases z:j=b
  ·rw [z,zo];have:=R.up b hb;(exact BR g2 g3 this)
  ·rw [zu z];exact R.up j hj
 ·by_cases z:j=b
  ·subst z;rw [zo,eqb h];exact R.same j hj h
  ·rw [zu z];exact R.same j hj h
 ·by_cases z:j=b
  ·subst z
   rw [zo]
   have l1:=R.low j hj h
   have:vk (p j) (p a+mo a j)<=p0 x-φ x+φ j:=by
    refine g4 _ (by exact BQ l1) ?_
    cases sa:S a with
    |true=>have:=la sa;(exact BP l1 this)
    |false=>have:=R.low a ha sa;(exact BO hm this)
   (exact BN this)
  ·rw [zu z];exact R.low j hj h
 ·rw [px]
  by_cases z:j=b
  ·subst z
   rw [zo]
   rcases h with h | h
   ·have:=R.rel j hj (Or.inl h);(exact BM g2 g3 this)
   ·rw [h.1];exact g2
  ·rw [zu z]
   exact R.rel j hj (by exact BL h z)
theorem Rnd.row {n:Nat} {mo:Nat->Nat->Int} {φ:Nat->Int} {S:Nat->Bool} {x:Nat} {p0 p:Nat->Int} {a:Nat} (R:Rnd n mo φ S x p0 a n p):Rnd n mo φ S x p0 (a+1) 0 p :=
 ⟨R.up,R.same,R.low,fun j hj h=>R.rel j hj (by exact BK hj h)⟩
theorem Rnd.done {n:Nat} {mo:Nat->Nat->Int} {φ:Nat->Int} {t:Nat} {S:Nat->Bool} {x:Nat} {p0 p:Nat->Int} (T:Stl n mo φ t S p0) (hx:x<n) (xS:S x=false) (R:Rnd n mo φ S x p0 n 0 p):Stl n mo φ (t+1) (upd S x true) p:=by
 have px:=R.same x hx (Or.inr rfl)
 have sor:∀ i,upd S x true i=true->S i=true\/i=x:=fun i h=>by
  by_cases z:i=x
  ·exact Or.inr z
  ·rw [zu z] at h;exact Or.inl h
 refine ⟨by rw [wy xS,if_pos hx,T.cnt],fun i j hi hj h h'=>?_,fun i j hi hj h=>?_⟩
 ·have hj':S j=false:=by
   by_cases z:j=x
   ·rw [z,zo] at h';cases h'
   ·rw [zu z] at h';exact h'
  have l:=R.low j hj hj'
  rcases sor i h with s | s
  ·have:=T.top i x hi hx s xS
   have:=R.same i hi (Or.inl s)
   (exact BJ l ‹_› this)
  ·rw [s];(exact BH px l)
 ·rcases sor i h with s | s
  ·have:=T.rel i j hi hj s
   have:=R.same i hi (Or.inl s)
   have:=R.up j hj
   (exact BG ‹_› ‹_› this)
  ·rw [s];exact R.rel j hj (Or.inl hx)
theorem Stl.open {n:Nat} {mo:Nat->Nat->Int} {φ:Nat->Int} {t:Nat} {S:Nat->Bool} {p:Nat->Int} (T:Stl n mo φ t S p) (ht:t<n):∃ x,x<n/\S x=false/\Rnd n mo φ S x p 0 0 p:=by
 have:∃ j,j<n/\S j=false:=Classical.byContradiction fun no=>by
  have:=QL (S:=S) (m:=n) fun j hj=>by
   cases e:S j with
   |true=>rfl
   |false=>exact (no ⟨j,hj,e⟩).elim
  rw [T.cnt] at this;(exact YR ht this)
 obtain ⟨x,x1,x2,x3⟩:=ZY (g:=fun j=>p j-φ j) this
 exact ⟨x,x1,x2,fun j _=>Int.le_refl _,fun j _ _=>rfl,fun j hj h=>x3 j hj h,fun j hj h=>by exact BF h⟩
theorem Stl.all {n:Nat} {mo:Nat->Nat->Int} {φ:Nat->Int} {S:Nat->Bool} {p:Nat->Int} (T:Stl n mo φ n S p) {i j:Nat} (hi:i<n) (hj:j<n):p i+mo i j<=p j:=by
 refine T.rel i j hi hj ?_
 cases e:S i with
 |true=>rfl
 |false=>have:=Jy e hi;rw [T.cnt] at this;omega
noncomputable def pb3:zk :=
 (.cons (.assign 7 (.bin .Sub (.sub (.sub (.loc 0) (.loc 5)) (.sub (.loc 1) (.loc 6))) (.sub (.sub (.loc 0) (.loc 5)) (.sub (.loc 1) (.loc 5)))))
 (.cons (.asub (.loc 3) (.loc 6) (.bi .max (.cons (.sub (.loc 3) (.loc 6)) (.cons (.bin .Add (.sub (.loc 3) (.loc 5)) (.loc 7)) .nil))))
 .nil))
noncomputable def pb2:zk:=(.cons (.fors (.loc 6) (.irange (.loc 2)) pb3) .nil)
noncomputable def pb1:zk:=(.cons (.fors (.loc 5) (.irange (.loc 2)) pb2) .nil)
noncomputable def psV (ws:List (List Int)) (pl:Nat->Nat) (n:Nat) (p:Nat->Int) (o4 o5 o6 o7:Option Tr):VS:=[some (tII ws),some (tA n (nT pl)),some (int n),some (tA n (iT p)),o4,o5,o6,o7]
noncomputable def moI (worths:List (List Int)) (pl:Nat->Nat) (i j:Nat):Int:=bA worths i (pl j)-bA worths i (pl i)
section
variable {ws:List (List Int)} {n:Nat} {pl:Nat->Nat}
theorem Sq.at0 {i j:Nat} (Q:Sq ws n) (i2:i<n) (j2:j<n):vz (tII ws) (int i)=some (tI (ws.getD i []))/\vz (tI (ws.getD i [])) (int j)=some (int (bA ws i j)):=by
 have li:i<ws.length:=by rw [Q.np];exact i2
 have lr:j<(ws.getD i []).length:=by rw [Q.row _ (by rw [getD_eq_getElem?_getD,getElem?_eq_getElem li];exact getElem_mem li)];exact j2
 exact ⟨qO (yt li),qO (yt lr)⟩
theorem T3 {f:Nat} {ρ:VS} {a b:za} {x y:Int} (ha:EP f a ρ=.ok (int x)) (hb:EP f b ρ=.ok (int y)):EP f (.bi .max (.cons a (.cons b .nil))) ρ=.ok (int (vk x y)):=by
 show (((EP f a ρ).bind fun v=>((EP f b ρ).bind fun w=>Ex.bind (.ok []) fun l=>.ok (w::l)).bind fun l=>Ex.ok (v::l)).bind _)=_
 rw [ha,hb];rfl
theorem Au (Q:Sq ws n) (pb:∀ i,i<n->pl i<n) {p:Nat->Int} {a c:Nat} (ha:a<n) (hc:c<n) {o4 o6 o7:Option Tr} {P:VF->VS->Prop}
  (k:P .next (psV ws pl n (upd p c (vk (p c) (p a+moI ws pl a c))) o4 (some (int a)) (some (int c)) (some (int (moI ws pl a c))))):VW (X 17 pb3 (psV ws pl n p o4 (some (int a)) (some (int c)) o7)) P:=by
 obtain ⟨e1,e2⟩:=Q.at0 ha (pb c hc)
 obtain ⟨_,e3⟩:=Q.at0 ha (pb a ha)
 refine yn (t:=int (moI ws pl a c)) (zN (zB (zB (y:=int a) rfl rfl e1) (zB (y:=int c) rfl rfl (zG hc)) e2) (zB (zB (y:=int a) rfl rfl e1) (zB (y:=int a) rfl rfl (zG ha)) e3) rfl) rfl rfl rfl ?_
 refine kq (g:=iT p) (k:=c) (t:=int (vk (p c) (p a+moI ws pl a c))) (T3 (zB (y:=int c) rfl rfl (zG hc)) (zN (x:=int (p a)) (zB (y:=int a) rfl rfl (zG ha)) (y:=int (moI ws pl a c)) rfl rfl)) rfl rfl hc rfl rfl ?_
 rw [vp int];exact k
theorem W3 (Q:Sq ws n) (hn:n<=1000) (pb:∀ i,i<n->pl i<n) {φ:Nat->Int} (hφ:∀ i j,i<n->j<n->moI ws pl i j<=φ j-φ i) :
  VW (vc 17 [tII ws,tA n (nT pl)]) fun r _=>∃ p,r=tA n (iT p)/\∀ i j,i<n->j<n->p i+moI ws pl i j<=p j:=by
 refine zS (d:=Kq) rfl rfl rfl rfl rfl ?_
 refine yn (t:=int n) (by show Ex.ok (int ((ws.map tI).length:Nat))=_;rw [length_map,Q.np]) rfl rfl rfl ?_
 refine vO (n:=n) rfl hn rfl rfl ?_
 have rg:∀ {p o4 o5 o6 o7},EI 17 (.irange (.loc 2)) (psV ws pl n p o4 o5 o6 o7)=.ok (yh 0 n):=fun {p o4 o5 o6 o7}=>Jq (x:=int n) rfl (GM hn)
 refine yI (rg (p:=fun _=>0) (o4:=none) (o5:=none) (o6:=none) (o7:=none)) rfl ?_
 refine qR (fun t ρ=>∃ p S o4 o5 o6 o7,ρ=psV ws pl n p o4 o5 o6 o7/\Stl n (moI ws pl) φ t S p) (n:=n) (fun t ρ ht z=>?_) (fun ρ z=>?_) n 0 _ (by (first | exact Wb | omega)) ⟨fun _=>0,fun _=>false,none,none,none,none,rfl,by simp [vH],fun i j _ _ h=>(by cases h),fun i j _ _ h=>(by cases h)⟩
 ·obtain ⟨p0,S,o4,o5,o6,o7,rfl,T⟩:=z
  obtain ⟨x,x1,x2,R⟩:=T.open ht
  refine yI rg rfl ?_
  refine qR (fun a ρ=>∃ p o5 o6 o7,ρ=psV ws pl n p (some (int t)) o5 o6 o7/\Rnd n (moI ws pl) φ S x p0 a 0 p) (n:=n) (fun a ρ ha z=>?_) (fun ρ z=>?_) n 0 _ (by (first | exact Wb | omega)) ⟨p0,o5,o6,o7,rfl,R⟩
  ·obtain ⟨p,o5,o6,o7,rfl,R⟩:=z
   refine yI rg rfl ?_
   refine qR (fun c ρ=>∃ p o6 o7,ρ=psV ws pl n p (some (int t)) (some (int a)) o6 o7/\Rnd n (moI ws pl) φ S x p0 a c p) (n:=n) (fun c ρ hc z=>?_) (fun ρ z=>?_) n 0 _ (by (first | exact Wb | omega)) ⟨p,o6,o7,rfl,R⟩
   ·obtain ⟨p,o6,o7,rfl,R⟩:=z
    exact Au (o6:=o6) Q pb ha hc ⟨_,_,_,rfl,R.step T x1 x2 hφ ha hc⟩
   ·obtain ⟨p,o6,o7,rfl,R⟩:=z
    exact ⟨p,_,o6,o7,rfl,R.row⟩
  ·obtain ⟨p,o5,o6,o7,rfl,R⟩:=z
   exact ⟨p,_,_,o5,o6,o7,rfl,R.done T x1 x2⟩
 ·obtain ⟨p,S,o4,o5,o6,o7,rfl,T⟩:=z
  exact .ok ⟨p,rfl,fun i j hi hj=>T.all hi hj⟩
end
noncomputable def okT (t:Tr):Bool:=match t with
 | .sc _=>true
 | .nd k _=>k.seq.isSome
noncomputable def qJ (t:Tr):Bool:=match t with
 | .sc v=>(match v with | .int _=>true | _=>false)
 | .nd _ _=>false
noncomputable def inR (t:Tr) (f:Int->Bool):Bool:=match t with
 | .sc v=>(match v with | .int k=>f k | _=>false)
 | .nd _ _=>false
noncomputable def zX (t:Tr):Bool:=inR t fun k=>decide (0<=k)&&decide (k<=1000000000000)
noncomputable def yc (n:Int) (t:Tr):Bool:=inR t fun k=>decide (0<=k)&&decide (k<n)
noncomputable def zL (f:Nat) (ts:List Tr) (t:Tr):Prop:=∃ ρ,vc f ts=.ok t ρ
noncomputable def Vv (f:Nat) (ts:List Tr) (c:Nat):Prop:=∃ ρ,vc f ts=.exc c ρ
noncomputable def Out (f:Nat) (ts:List Tr) (t:Tr) (o:Option Nat):Prop:=match o with | none=>zL f ts t | some c=>Vv f ts c
section
variable {f:Nat} {ρ:VS} {Q:VF->VS->Prop}
theorem z8 {e:za} {r:zk} {t:Tr} (h:EX f e ρ=.ok t ρ) (hr:wE sg (sg f).sh (XC f) (npO f) (sg f).rs e ρ=(EX f e ρ).bind fun t ρ=>cond (zM (cls (sg f).sh e) t) (.ok t ρ) .stuck) (st:zM (cls (sg f).sh e) t=true) (k:Q (.ret t) ρ):VW (X f (.cons (.ret e) r) ρ) Q:=by
 refine yJ ?_
 show VW ((wE sg (sg f).sh (XC f) (npO f) (sg f).rs e ρ).bind fun t ρ=>.ok (VF.ret t) ρ) _
 rw [hr,h]
 show VW ((cond (zM (cls (sg f).sh e) t) (VR.ok t ρ) .stuck).bind fun t ρ=>.ok (VF.ret t) ρ) _
 rw [st];exact .ok k
theorem zW {a b:za} {t u:Tr} (h:EP f a ρ=.ok t) (ht:zd t=some true) (h2:EP f b ρ=.ok u):EP f (.and a b) ρ=.ok u:=by
 show (EP f a ρ).bind _=_
 rw [h]
 show (Ex.opt (zd t)).bind _=_
 rw [ht];exact h2
theorem vD {a b:za} {t:Tr} (h:EP f a ρ=.ok t) (ht:zd t=some false):EP f (.and a b) ρ=.ok t:=by
 show (EP f a ρ).bind _=_
 rw [h]
 show (Ex.opt (zd t)).bind _=_
 rw [ht];rfl
theorem ji {a:za} {t:Tr} {b:Bool} (h:EP f a ρ=.ok t) (ht:zd t=some b):EP f (.un .Not a) ρ=.ok (bool !b):=by
 show (EP f a ρ).bind _=_
 rw [h]
 show xz t=_
 unfold xz;rw [ht];rfl
theorem ZD {o1 o2:CmpOp} {a b c:za} {x y z:Tr} {p q:Bool} (ha:EP f a ρ=.ok x) (hb:EP f b ρ=.ok y) (hc:EP f c ρ=.ok z) (h1:ym o1 x y=some p) (h2:ym o2 y z=some q):EP f (.cmp2 o1 o2 a b c) ρ=.ok (bool (p&&q)):=by
 show (EP f a ρ).bind _=_
 rw [ha]
 show (EP f b ρ).bind _=_
 rw [hb]
 show (Ex.opt (ym o1 x y)).bind _=_
 rw [h1]
 cases p with
 |false=>rfl
 |true =>
  show (EP f c ρ).bind _=_
  rw [hc]
  show (Ex.opt (ym o2 y z)).bind _=_
  rw [h2];rfl
end
theorem yo {f:Nat} {ts:List Tr} {t:Tr} (w:VW (vc f ts) fun r _=>r=t):zL f ts t:=let ⟨a,ρ,e,h⟩:=w.get;⟨ρ,h▸e⟩
theorem Qq {t:Tr} (h:okT t=true):zL 1 [t] (bool (qJ t)):=by
 refine yo (zS (d:=xn) rfl rfl rfl rfl rfl ?_)
 cases t with
 |sc v=>cases v with
  | _=>exact .ok rfl
 |nd k ts=>cases k with
  |inst=>cases h
  | _=>exact .ok rfl
theorem xG {t:Tr} (h:qJ t=true):∃ k,t=int k:=by
 cases t with
 |nd=>cases h
 |sc v=>cases v with
  |int k=>exact ⟨k,rfl⟩
  | _=>cases h
theorem Je {t:Tr} {g:Int->Bool} (h:qJ t=false):inR t g=false:=by
 cases t with
 |nd=>rfl
 |sc v=>cases v with
  |int k=>cases h
  | _=>rfl
theorem J1 {t:Tr} {n:Int} (h:okT t=true):zL 2 [t,int n] (bool (yc n t)):=by
 obtain ⟨ρ,e⟩:=Qq h
 refine yo (zS (d:=uD) rfl rfl rfl rfl rfl ?_)
 have ec:EP 2 (.call 1 (.cons (.loc 0) .nil)) [some t,some (int n)]=.ok (bool (qJ t)):=zy (ts:=[t]) rfl rfl rfl e
 cases en:qJ t with
 |false =>
  rw [en] at ec
  rw [show yc n t=false from Je en]
  exact z8 (x_p (vD ec rfl) rfl) rfl rfl rfl
 |true =>
  rw [en] at ec
  obtain ⟨k,rfl⟩:=xG en
  exact z8 (x_p (zW ec rfl (ZD (x:=int 0) (y:=int k) (z:=int n) rfl rfl rfl rfl rfl)) rfl) rfl rfl rfl
theorem Ww {g:Tr->VS->VR VF} {c:Nat} {b:Tr->Bool} {I:VS->Prop}:∀ {ts:List Tr} {ρ:VS},I ρ->(∀ t∈ts,∀ ρ,I ρ->if b t then ∃ ρ',g t ρ=.ok .next ρ'/\I ρ' else ∃ ρ',g t ρ=.exc c ρ')->if ts.all b then ∃ ρ',jF g ts ρ=.ok .next ρ'/\I ρ' else ∃ ρ',jF g ts ρ=.exc c ρ'
 | [],ρ,i,k=>⟨ρ,rfl,i⟩
 |t::ts,ρ,i,k=>by
  have z:=k t (.head _) ρ i
  rw [all_cons]
  show if (b t&&ts.all b)=true then ∃ ρ',(g t ρ).bind _=_/\I ρ' else ∃ ρ',(g t ρ).bind _=_
  cases e:b t with
  |false=>rw [e] at z;obtain ⟨ρ',z⟩:=z;exact ⟨ρ',by rw [z];rfl⟩
  |true =>
   rw [e] at z
   obtain ⟨ρ',z,i'⟩:=z
   have:=Ww (ts:=ts) i' fun t ht=>k t (.tail _ ht)
   rw [z];exact this
noncomputable def nb1:zk:=(.cons (.ifs (.or (.un .Not (.call 1 (.cons (.loc 1) .nil))) (.un .Not (.cmp2 .LtE .LtE (.const (.int 0)) (.loc 1) (.gconst (.int 1000000000000))))) (.cons (.raise 4) .nil) .nil) .nil)
theorem KX {f:Nat} {ρ:VS} {c:za} {a e r:zk} {t:Tr} (b:Bool) (hc:EX f c ρ=.ok t ρ) (ht:zd t=some b):X f (.cons (.ifs c a e) r) ρ=(X f (cond b a e) ρ).bind fun p ρ=>match p with | .next=>X f r ρ | .ret t=>.ok (.ret t) ρ:=by
 show (((EX f c ρ).bind fun t ρ=>(Ex.opt (zd t)).on ρ).bind _).bind _=_
 rw [hc]
 show (((Ex.opt (zd t)).on ρ).bind _).bind _=_
 rw [ht]
 cases b <;> rfl
theorem Aa {t:Tr} {o:Option Tr} (h:okT t=true):X 3 nb1 [o,some t]=cond (zX t) (.ok .next [o,some t]) (.exc 4 [o,some t]):=by
 obtain ⟨ρc,e⟩:=Qq h
 have ec:EP 3 (.un .Not (.call 1 (.cons (.loc 1) .nil))) [o,some t]=.ok (bool (!qJ t)):=ji (zy (ts:=[t]) rfl rfl rfl e) rfl
 cases en:qJ t with
 |false =>
  rw [en] at ec
  rw [show zX t=false from Je en]
  exact KX true (x_p (Ky ec rfl) rfl) rfl
 |true =>
  rw [en] at ec
  obtain ⟨k,rfl⟩:=xG en
  refine (KX (!zX (int k)) (x_p (jO ec rfl (ji (ZD (x:=int 0) (y:=int k) (z:=int 1000000000000) rfl rfl rfl rfl rfl) rfl)) rfl) rfl).trans ?_
  show (X 3 (cond (!zX (int k)) _ _) _).bind _=_
  cases zX (int k) <;> rfl
theorem kE {ts:List Tr} (h:ts.all okT=true):Out 3 [.nd .lst ts] (.sc .none) (cond (ts.all zX) none (some 4)):=by
 have z:=Ww (g:=fun x ρ=>X 3 nb1 (ρ.set 1 (some x))) (c:=4) (b:=zX) (I:=fun ρ=>∃ o,ρ=[some (.nd .lst ts),o]) (ts:=ts) (ρ:=[some (.nd .lst ts),none]) ⟨none,rfl⟩ (fun t ht ρ i=>by
  obtain ⟨o,rfl⟩:=i
  have:=Aa (o:=some (.nd .lst ts)) (all_eq_true.mp h t ht)
  cases e:zX t with
  |true=>rw [e] at this;exact ⟨_,this,_,rfl⟩
  |false=>rw [e] at this;exact ⟨_,this⟩)
 have run:X 3 qd.body (List.map some [.nd .lst ts]++List.replicate (qd.ns-qd.np) none)=(jF (fun x ρ=>X 3 nb1 (ρ.set 1 (some x))) ts [some (.nd .lst ts),none]).bind fun p ρ=>match p with | .next=>.ok .next ρ | .ret t=>.ok (.ret t) ρ:=rfl
 cases e:ts.all zX with
 |true=>rw [e] at z;obtain ⟨ρ,z,_⟩:=z;exact ⟨ρ,by rw [z9 (d:=qd) rfl rfl rfl rfl rfl,run,z];rfl⟩
 |false=>rw [e] at z;obtain ⟨ρ,z⟩:=z;exact ⟨ρ,by rw [z9 (d:=qd) rfl rfl rfl rfl rfl,run,z];rfl⟩
noncomputable def zU (n:Int) (ts:List Tr):Option Nat:=if (ts.length:Int)=n then cond (ts.all zX) none (some 4) else some 3
theorem jd {ts:List Tr} {n:Int} (h:ts.all okT=true):Out 4 [.nd .lst ts,int n] (.sc .none) (zU n ts):=by
 have e1:EX 4 (.cmp .NotEq (.bi .len (.cons (.loc 0) .nil)) (.loc 1)) [some (.nd .lst ts),some (int n)]=.ok (bool (!((ts.length:Int)==n))) _:=yk (x:=int ts.length) (y:=int n) rfl rfl rfl
 have c1:=z9 (f:=4) (ts:=[.nd .lst ts,int n]) (d:=yZ) rfl rfl rfl rfl rfl
 by_cases q:(ts.length:Int)=n
 ·rw [beq_iff_eq.mpr q] at e1
  have run:X 4 yZ.body [some (.nd .lst ts),some (int n)]=(EX 4 (.call 3 (.cons (.loc 0) .nil)) [some (.nd .lst ts),some (int n)]).bind fun _ ρ=>.ok .next ρ:=by
   refine (KX false e1 rfl).trans ?_
   show ((EX 4 (.call 3 (.cons (.loc 0) .nil)) [some (.nd .lst ts),some (int n)]).bind fun _ ρ=>.ok VF.next ρ).bind _=_
   cases EX 4 (.call 3 (.cons (.loc 0) .nil)) [some (.nd .lst ts),some (int n)] <;> rfl
  have z:=kE h
  unfold zU
  rw [if_pos q]
  cases e:ts.all zX with
  |true=>rw [e] at z;obtain ⟨ρ,z⟩:=z;exact ⟨_,by rw [c1];show qr (X 4 yZ.body [some (.nd .lst ts),some (int n)])=_;rw [run,zF (ts:=[.nd .lst ts]) rfl rfl rfl z];rfl⟩
  |false=>rw [e] at z;obtain ⟨ρ,z⟩:=z;exact ⟨_,by rw [c1];show qr (X 4 yZ.body [some (.nd .lst ts),some (int n)])=_;rw [run,qh (ts:=[.nd .lst ts]) rfl rfl rfl z];rfl⟩
 ·rw [beq_false_of_ne q] at e1
  unfold zU
  rw [if_neg q]
  exact ⟨_,by rw [c1];show qr (X 4 yZ.body [some (.nd .lst ts),some (int n)])=_;rw [show yZ.body=.cons _ _ from rfl,KX true e1 rfl];rfl⟩
structure j9 (bids:List (List Int)) (p m:Nat):Prop where
 np:bids.length=p
 row:∀ r∈bids,r.length=m/\∀ x∈r,0<=x/\x<=1000000000000
theorem uV {xs:List Int}:(xs.map int).all okT=true:=by rw [all_map];exact all_eq_true.mpr fun _ _=>rfl
theorem KV {xs:List Int} (h:∀ x∈xs,0<=x/\x<=1000000000000):(xs.map int).all zX=true:=by
 rw [all_map]
 exact all_eq_true.mpr fun x hx=>by
  show (decide (0<=x)&&decide (x<=1000000000000))=true
  rw [decide_eq_true (h x hx).1,decide_eq_true (h x hx).2];rfl
theorem Yr {r:List Int} {m:Nat} (h:r.length=m/\∀ x∈r,0<=x/\x<=1000000000000):zL 4 [tI r,int m] (.sc .none):=by
 have z:=jd (ts:=r.map int) (n:=m) uV
 unfold zU at z
 rw [if_pos (by rw [length_map,h.1]),KV h.2] at z
 exact z
theorem Jx {f:Nat} {ρ:VS} {o i:za} {α:Type} {g:α->Tr} {xs:List α} {k:Nat} {d:α} (ho:EP f o ρ=.ok (.nd .lst (xs.map g))) (hi:EP f i ρ=.ok (int k)) (l:k<xs.length):EP f (.sub o i) ρ=.ok (g (xs.getD k d)):=zB ho hi (qO (yt l))
theorem j9.at {bids:List (List Int)} {p m k:Nat} (B:j9 bids p m) (h:k<p):(bids.getD k []).length=m/\∀ x∈bids.getD k [],0<=x/\x<=1000000000000:=B.row _ (by rw [getD_eq_getElem?_getD,getElem?_eq_getElem (by rw [B.np];exact h)];exact getElem_mem _)
theorem U2 {g:Tr->VS->VR VF} {α:Type} {h:α->Tr} {Q:VF->VS->Prop} (I:VS->Prop) {xs:List α} (turn:∀ x∈xs,∀ ρ,I ρ->VW (g (h x) ρ) fun p ρ'=>match p with | .next=>I ρ' | .ret t=>Q (.ret t) ρ') (fin:∀ ρ,I ρ->Q .next ρ):∀ {ρ:VS},I ρ->VW (jF g (xs.map h) ρ) Q:=by
 induction xs with
 |nil=>exact fun i=>.ok (fin _ i)
 |cons x xs ih =>
  intro ρ i
  show VW ((g (h x) ρ).bind _) Q
  refine VW.bind (turn x (.head _) ρ i) fun p ρ' q=>?_
  cases p with
  |next=>exact ih (fun y hy=>turn y (.tail _ hy)) q
  |ret t=>exact .ok q
theorem yU {f:Nat} {ρ ρ':VS} {Q:VF->VS->Prop} {e:za} {r:zk} {t:Tr} (h:EX f e ρ=.ok t ρ') (k:Nr f r Q ρ'):VW (X f (.cons (.expr e) r) ρ) Q:=by
 refine yJ ?_
 show VW ((EX f e ρ).bind fun _ ρ=>.ok VF.next ρ) _
 rw [h];exact .ok k
theorem yE {f:Nat} {ρ:VS} {e:za} {ts:List Tr} {n:Nat} (h:EP f e ρ=.ok (.nd .lst ts)) (l:ts.length=n):EP f (.bi .len (.cons e .nil)) ρ=.ok (int n):=by
 show (((EP f e ρ).bind fun v=>Ex.bind (.ok []) fun l=>.ok (v::l)).bind _)=_
 rw [h,<- l];rfl
theorem Jl {bids:List (List Int)} {p m:Nat} (B:j9 bids p m) (hp:0<p) (h9:p<=9) (h40:m<=40):zL 5 [tII bids] (.sc .none):=by
 refine yo (zS (d:=Vl) rfl rfl rfl rfl rfl ?_)
 have lb:(bids.map tI).length=p:=by rw [length_map,B.np]
 have el:∀ {o},EP 5 (.bi .len (.cons (.loc 0) .nil)) [some (tII bids),o]=.ok (int p):=fun {o}=>yE (ts:=bids.map tI) rfl lb
 have e0:∀ {o},EP 5 (.bi .len (.cons (.sub (.loc 0) (.const (.int 0))) .nil)) [some (tII bids),o]=.ok (int m):=fun {o}=>yE (Jx (g:=tI) (xs:=bids) (k:=0) (d:=[]) rfl rfl (by rw [B.np];exact hp)) (by rw [length_map];exact (B.at hp).1)
 refine zq false (yk (x_p el rfl) (y:=int 0) rfl (by show some ((p:Int)==0)=_;rw [beq_false_of_ne (by exact YL hp)])) rfl ?_
 refine VW.ok ?_
 refine zq false (x_p (jO (zJ el (y:=int 9) rfl (by show some (decide ((p:Int)>9))=_;rw [decide_eq_false (by exact Bu h9)])) rfl (zJ e0 (y:=int 40) rfl (by show some (decide ((m:Int)>40))=_;rw [decide_eq_false (by exact Bt h40)]))) rfl) rfl ?_
 refine VW.ok ?_
 refine yI (ts:=bids.map tI) rfl rfl ?_
 refine U2 (fun ρ=>∃ o,ρ=[some (tII bids),o]) (fun r hr ρ i=>?_) (fun ρ i=>rfl) ⟨_,rfl⟩
 obtain ⟨o,rfl⟩:=i
 obtain ⟨ρc,z⟩:=Yr (B.row r hr)
 refine yU (zF (ts:=[tI r,int m]) ?_ rfl rfl z) ⟨_,rfl⟩
 show (((EP 5 (.bi .len (.cons (.sub (.loc 0) (.const (.int 0))) .nil)) [some (tII bids),some (tI r)]).bind fun w=>Ex.bind (.ok []) fun l=>.ok (w::l)).bind fun l=>Ex.ok (tI r::l))=_
 rw [e0];rfl
theorem Qt:Vv 5 [tII []] 1:=⟨_,by rw [z9 (d:=Vl) rfl rfl rfl rfl rfl];rfl⟩
theorem qu {ts:List Tr} (l:ts.length<=1000):mkL ts=.ok (.nd .lst ts):=by
 unfold mkL;rw [if_pos (Nat.le_trans l (by decide))]
theorem wD {α β:Type} {s:Sh} {f:β->Ex (Option Tr)} {g:α->β} {h:α->Tr}:∀ {xs:List α},(∀ x∈xs,f (g x)=.ok (some (h x))/\zM s (h x)=true)->yl s f (xs.map g)=.ok (xs.map h)
 | [],_=>rfl
 |x::xs,k=>by
  obtain ⟨e1,e2⟩:=k x (.head _)
  show (f (g x)).bind _=_
  rw [e1]
  show cond (zM s (h x)) ((yl s f (xs.map g)).bind _) _=_
  rw [e2,wD fun y hy=>k y (.tail _ hy)];rfl
theorem yf {f y:Nat} {ρ:VS} {elt it:za} {α:Type} {g h:α->Tr} {xs:List α} (hi:EI f it ρ=.ok (xs.map g)) (hg:(cls (sg f).sh it).cov ((sg f).sh.getD y .i)=true) (l:xs.length<=1000)
  (k:∀ x∈xs,EP f elt (ρ.set y (some (g x)))=.ok (h x)/\zM (cls (sg f).sh elt) (h x)=true):EP f (.comp elt (.loc y) it (.const (.bool true))) ρ=.ok (.nd .lst (xs.map h)):=by
 show cond ((cls (sg f).sh it).cov ((sg f).sh.getD y .i)) ((EI f it ρ).bind fun ts=>(yl (cls (sg f).sh elt) (fun x=>(EP f elt (ρ.set y (some x))).bind fun r=>.ok (some r)) ts).bind mkL) .stuck=_
 rw [hg,hi]
 show (yl _ _ (xs.map g)).bind mkL=_
 rw [wD fun x hx=>⟨by rw [(k x hx).1];rfl,(k x hx).2⟩]
 exact qu (by rw [length_map];exact l)
theorem wP {α:Type} {g:α->Int}:∀ {xs:List α},xd (xs.map fun x=>int (g x))=some (xs.map g)
 | []=>rfl
 |x::xs=>by
  show (xd (xs.map fun x=>int (g x))).map _=_
  rw [wP];rfl
noncomputable def v5 (bids:List (List Int)) (p m:Nat):List (List Int):=bids.map fun r=>r++List.replicate (p-m) 0
noncomputable def Kf (ws:List (List Int)):List (List Int):=ws.map fun r=>r.map fun x=>0-x
noncomputable def tN (hs:List Nat):Tr:=.nd .lst (hs.map fun k:Nat=>int k)
noncomputable def wF (p:Nat) (u:Nat->Int):Int:=((List.range p).map u).sum
noncomputable def ja (pl:Nat->Nat) (m i:Nat):List Nat:=if pl i<m then [pl i] else []
noncomputable def qY (own:Nat->Int) (p:Nat) (i:Nat):Int:=own i*p-wF p own
noncomputable def yT (p:Nat) (H:Nat->List Nat) (S:Nat->Int):Tr:=.nd .tup [tA p fun i=>tN (H i),tA p (iT S)]
theorem ZX {n:Nat} {g:Nat->Tr}:yg n g++[g n]=yg (n+1) g:=by rw [yg,yg,range_succ,map_append];rfl
structure T9 (bids:List (List Int)) (p m:Nat) (pl:Nat->Nat) (paid x y:Nat->Int):Prop where
 best:Tj (bA (Kf (v5 bids p m))) p pl x y
 rel:∀ i j,i<p->j<p->paid i+moI (v5 bids p m) pl i j<=paid j
theorem HH {bids:List (List Int)} {p m:Nat} (B:j9 bids p m) (hm:m<=p):Sq (v5 bids p m) p:=by
 refine ⟨by rw [v5,length_map,B.np],fun r hr=>?_⟩
 obtain ⟨z,hz,rfl⟩:=mem_map.mp hr
 have:=(B.row z hz).1
 rw [length_append,length_replicate];(exact BE hm this)
theorem D9 {ws:List (List Int)} {n:Nat} (Q:Sq ws n):Sq (Kf ws) n:=by
 refine ⟨by rw [Kf,length_map,Q.np],fun r hr=>?_⟩
 obtain ⟨z,hz,rfl⟩:=mem_map.mp hr
 rw [length_map,Q.row z hz]
theorem Y5 {ws:List (List Int)} {n i j:Nat} (Q:Sq ws n) (hi:i<n) (hj:j<n):bA (Kf ws) i j=- bA ws i j:=by
 have h1:i<ws.length:=by rw [Q.np];exact hi
 have h2:j<(ws[i]).length:=by rw [Q.row _ (getElem_mem h1)];exact hj
 simp [bA,Kf,h1,h2]
theorem GR {ws:List (List Int)} {p:Nat} {pl:Nat->Nat} {x y:Nat->Int} (Q:Sq ws p) (T:Tj (bA (Kf ws)) p pl x y) {i j:Nat} (hi:i<p) (hj:j<p):moI ws pl i j<=(- y (pl j))-(- y (pl i)):=by
 have e1:=T.eq i hi
 have e2:=T.le i (pl j) hi (T.lt j hj)
 rw [Y5 Q hi (T.lt i hi)] at e1
 rw [Y5 Q hi (T.lt j hj)] at e2
 unfold moI;(exact BD e1 e2)
theorem yY {f:Nat} {ρ:VS} {a:za} {t:Tr} (h:EP f a ρ=.ok t):ES f (.cons a .nil) ρ=.ok [t]:=by
 show (EP f a ρ).bind _=_
 rw [h];rfl
theorem j7 {f:Nat} {ρ:VS} {a:za} {ts:List Tr} (h:EP f a ρ=.ok (.nd .lst ts)) (o:wL (cls (sg f).sh a) ts=true) (l:ts.length<=1000):EP f (.bi .list (.cons a .nil)) ρ=.ok (.nd .lst ts):=by
 show (ES f (.cons a .nil) ρ).bind _=_
 rw [yY h]
 show cond (wL (cls (sg f).sh a) ts) (mkL ts) .stuck=_
 rw [o]
 exact qu l
noncomputable def isV (u:Tr) (p m:Nat) (o3 o4 o5 o6 o7 o8:Option Tr):VS:=[some u,some (int p),some (int m),o3,o4,o5,o6,o7,o8,none,none,none,none]
noncomputable def irb:zk :=
 (.cons (.ifs (.cmp .Lt (.loc 8) (.loc 2))
 (.cons (.expr (.meth .append (.loc 7) (.cons (.lst (.cons (.loc 8) .nil)) .nil)))
 .nil)
 (.cons (.expr (.meth .append (.loc 7) (.cons (.lst .nil) .nil)))
 .nil))
 .nil)
theorem qm {g:Tr->VS->VR VF} {Q:VF->VS->Prop} (h:Nat->Tr) (I:Nat->VS->Prop) {n:Nat} (turn:∀ m ρ,m<n->I m ρ->VW (g (h m) ρ) fun p ρ'=>match p with | .next=>I (m+1) ρ' | .ret t=>Q (.ret t) ρ') (fin:∀ ρ,I n ρ->Q .next ρ) {ρ:VS} (i:I 0 ρ):VW (jF g (yg n h) ρ) Q:=by
 have key:∀ (k m:Nat) (ρ:VS),m+k=n->I m ρ->VW (jF g ((List.range' m k).map h) ρ) Q:=by
  intro k
  induction k with
  |zero=>exact fun m ρ e i=>.ok (fin ρ (by rw [<- show m=n from e];exact i))
  |succ k ih =>
   intro m ρ e i
   show VW ((g (h m) ρ).bind _) Q
   refine VW.bind (turn m ρ (by exact YV e) i) fun p ρ' q=>?_
   cases p with
   |next=>exact ih (m+1) ρ' (by exact YU e) q
   |ret t=>exact .ok q
 have:=key n 0 ρ (by (first | exact Wb | omega)) i
 rwa [<- List.range_eq_range'] at this
theorem YB {f x:Nat} {ρ:VS} {e:za} {t:Tr} (h:vN sg (sg f).sh (XC f) ((sg f).sh.getD x .i) e ρ=.ok t) (ho:(((sg f).sh.getD x .i).isI||!decide (npO f<=x))=false):X f (.assign x e) ρ=.ok .next (ρ.set x (some t)):=by
 show (match (sg f).sh.getD x .i with
  | .i=>(EX f e ρ).bind fun t ρ=>cond (zM (cls (sg f).sh e) t) (.ok VF.next (ρ.set x (some t))) .stuck
  |s=>cond (decide (npO f<=x)) (((vN sg (sg f).sh (XC f) s e ρ).on ρ).bind fun t ρ=>.ok VF.next (ρ.set x (some t))) .stuck)=_
 revert h ho
 cases decide (npO f<=x) with
 |false=>rw [Bool.not_false,Bool.or_true];exact fun _ h=>nomatch h
 |true =>
  generalize (sg f).sh.getD x .i=s
  cases s with
  |i=>exact fun _ h=>nomatch h
  | _=>intro h _;dsimp only;rw [h];rfl
theorem jE {f x:Nat} {ρ:VS} {e:za} {r:zk} {t:Tr} {Q:VF->VS->Prop} (h:vN sg (sg f).sh (XC f) ((sg f).sh.getD x .i) e ρ=.ok t) (ho:(((sg f).sh.getD x .i).isI||!decide (npO f<=x))=false) (k:Nr f r Q (ρ.set x (some t))):VW (X f (.cons (.assign x e) r) ρ) Q:=by
 refine yJ ?_
 rw [YB h ho];exact .ok k
theorem vo {f x:Nat} {ρ ρ':VS} {e:za} {r:zk} {t:Tr} {Q:VF->VS->Prop} (h:EX f e ρ=.ok t ρ') (hs:(sg f).sh.getD x .i=.i) (st:zM (cls (sg f).sh e) t=true) (k:Nr f r Q (ρ'.set x (some t))):VW (X f (.cons (.assign x e) r) ρ) Q:=by
 refine yJ ?_
 show VW (match (sg f).sh.getD x .i with
  | .i=>(EX f e ρ).bind fun t ρ=>cond (zM (cls (sg f).sh e) t) (.ok VF.next (ρ.set x (some t))) .stuck
  |s=>cond (decide (npO f<=x)) (((vN sg (sg f).sh (XC f) s e ρ).on ρ).bind fun t ρ=>.ok VF.next (ρ.set x (some t))) .stuck) _
 rw [hs,h]
 show VW (cond (zM (cls (sg f).sh e) t) (.ok VF.next (ρ'.set x (some t))) .stuck) _
 rw [st];exact .ok k
theorem zR {f:Nat} {ρ:VS} {Q:VF->VS->Prop} {e:za} {r:zk} {t:Tr} (h:EP f e ρ=.ok t) (hr:wE sg (sg f).sh (XC f) (npO f) (sg f).rs e ρ=(EP f e ρ).on ρ) (k:Q (.ret t) ρ):VW (X f (.cons (.ret e) r) ρ) Q:=by
 refine yJ ?_
 show VW ((wE sg (sg f).sh (XC f) (npO f) (sg f).rs e ρ).bind fun t ρ=>.ok (VF.ret t) ρ) _
 rw [hr,h];exact .ok k
theorem Wk {a:Int} {p:Nat} (h:p<=1000):xa a p=true:=by
 unfold xa;rw [or_eq_true_iff,decide_eq_true_iff,decide_eq_true_iff];right;rw [Int.natAbs_natCast];(exact BC h)
theorem Vm {f:Nat} {ρ:VS} {a b:za} {t u:Tr} (ha:EP f a ρ=.ok t) (hb:EP f b ρ=.ok u):EP f (.tup (.cons a (.cons b .nil))) ρ=.ok (.nd .tup [t,u]):=by
 show (((EP f a ρ).bind fun v=>((EP f b ρ).bind fun w=>Ex.bind (.ok []) fun l=>.ok (w::l)).bind fun l=>Ex.ok (v::l)).bind _)=_
 rw [ha,hb];rfl
theorem Zz {f:Nat} {ρ:VS} {e:za} {k:Nat} {v:Val} (h:EP f e ρ=.ok (int k)) (l:k<=1000):EP f (.bin .Mult (.lst (.cons (.const v) .nil)) e) ρ=.ok (.nd .lst (List.replicate k (.sc v))):=by
 refine zN (x:=.nd .lst [.sc v]) rfl h ?_
 show (if (k:Int)<=lim/\-lim<=(k:Int) then mkL (List.replicate (k:Int).toNat [Tr.sc v]).flatten else .stuck)=_
 rw [if_pos (by unfold lim;(exact TJ l)),flatten_replicate_singleton,toNat_natCast]
 exact qu (by rw [length_replicate];exact l)
theorem TZ {f:Nat} {ρ:VS} {e:za} {ts:List Tr} {ns:List Int} (h:EP f e ρ=.ok (.nd .lst ts)) (hn:xd ts=some ns):EP f (.bi .sum (.cons e .nil)) ρ=.ok (int ns.sum):=by
 show (ES f (.cons e .nil) ρ).bind _=_
 rw [yY h]
 show (match xd ts with | some ns=>Ex.ok (Tr.sc (.int ns.sum)) | none=>.stuck)=_
 rw [hn];rfl
theorem Jv {f p:Nat} {ρ:VS} {e:za} {u:Nat->Int} (h:EP f e ρ=.ok (tA p (iT u))):EP f (.bi .sum (.cons e .nil)) ρ=.ok (int (wF p u)):=TZ h wP
theorem Jw {f x y n:Nat} {ρ:VS} {a b:za} {own:Nat->Int} (hx:EI f (.iobj (.loc x)) ρ=.ok (yg n (iT own))) (hn:n<=1000) (ha:∀ i,EP f a (ρ.set y (some (int (own i))))=.ok (int n)) (hb:∀ i,EP f b (ρ.set y (some (int (own i))))=.ok (int (wF n own))) (hy:∀ t:Tr,EP f (.loc y) (ρ.set y (some t))=.ok t)
  (hc:(cls (sg f).sh (.iobj (.loc x))).cov ((sg f).sh.getD y .i)=true):EP f (.comp (.bin .Sub (.bin .Mult (.loc y) a) b) (.loc y) (.iobj (.loc x)) (.const (.bool true))) ρ=.ok (tA n (iT (qY own n))) :=
 yf (g:=iT own) (h:=iT (qY own n)) (xs:=List.range n) hx hc (by rw [length_range];exact hn) fun i _=>⟨zN (zN (hy _) (ha i) (if_pos (Wk hn))) (hb i) rfl,Bool.or_true _⟩
theorem XK {f x:Nat} {ρ:VS} {es:za} {us ts:List Tr} (hs:Qa ((sg f).sh.getD x .i)=true) (hx:ρ[x]?=some (some (.nd .lst us))) (he:ES f es ρ=.ok ts) (hc:(cls (sg f).sh es).isI=true) (l1:ts.length<=1000) (l2:us.length<=1000) :
  EX f (.meth .append (.loc x) (.cons (.lst es) .nil)) ρ=.ok (.sc .none) (ρ.set x (some (.nd .lst (us++[.nd .lst ts])))):=by
 show cond (Qa ((sg f).sh.getD x .i)) (XH sg (sg f).sh (XC f) x es ρ) _=_
 rw [hs]
 show VR.opt (ρ[x]?.bind fun o=>o.bind Jk) _=_
 rw [hx]
 show ((ES f es ρ).on ρ).bind _=_
 rw [he]
 show cond ((cls (sg f).sh es).isI) (if ts.length<=lim/\us.length<lim then VR.ok (Tr.sc .none) (ρ.modify x (Option.map (vV [] (.nd .lst (us++[.nd .lst ts]))))) else .stuck) .stuck=_
 rw [hc,Jh hx]
 exact if_pos ⟨Nat.le_trans l1 (by decide),lt_of_le_of_lt l2 (by decide)⟩
theorem Ah {bids:List (List Int)} {p m k:Nat} {o3 o4 o5 o6 o8:Option Tr} {pl:Nat->Nat} (hk:k<=50) {P:VF->VS->Prop} (q:P .next (isV (tII bids) p m o3 o4 o5 o6 (some (tA (k+1) fun i=>tN (ja pl m i))) (some (int (pl k))))) :
  VW (X 14 irb (isV (tII bids) p m o3 o4 o5 o6 (some (tA k fun i=>tN (ja pl m i))) (some (int (pl k))))) P:=by
 have e:∀ ts:List Nat,ja pl m k=ts->P .next (isV (tII bids) p m o3 o4 o5 o6 (some (Tr.nd .lst (yg k (fun i=>tN (ja pl m i))++[tN ts]))) (some (int (pl k)))):=fun ts e=>by
  rw [<- e,ZX (g:=fun i=>tN (ja pl m i))];exact q
 have l:(yg k fun i=>tN (ja pl m i)).length<=1000:=by rw [yu];(exact V7 hk)
 refine zq (decide (pl k<m)) (yk (x:=int (pl k)) (y:=int m) rfl rfl (by show some (decide ((pl k:Int)<m))=_;rw [decide_eq_decide.mpr ofNat_lt])) rfl ?_
 by_cases h:pl k<m
 ·rw [decide_eq_true h]
  exact yU (XK (ts:=[int (pl k)]) rfl rfl rfl rfl (by show 1<=1000;decide) l) (e [pl k] (if_pos h))
 ·rw [decide_eq_false h]
  exact yU (XK (ts:=[]) rfl rfl rfl rfl (by decide) l) (e [] (if_neg h))
theorem Vh {bids:List (List Int)} {p m:Nat} (B:j9 bids p m) (hp:0<p) (h9:p<=9) (hm:m<=p):VW (vc 14 [tII bids]) fun r _=>∃ pl paid x y,r=yT p (ja pl m) (qY paid p)/\T9 bids p m pl paid x y:=by
 refine zS (d:=j6) rfl rfl rfl rfl rfl ?_
 obtain ⟨ρc,lk⟩:=Jl B hp h9 (by exact BB h9 hm)
 refine yU (zF (ts:=[tII bids]) rfl rfl rfl lk) ?_
 refine yn (t:=int p) (yE (ts:=bids.map tI) rfl (by rw [length_map,B.np])) rfl rfl rfl ?_
 refine yn (t:=int m) (yE (Jx (g:=tI) (xs:=bids) (k:=0) (d:=[]) rfl rfl (by rw [B.np];exact hp)) (by rw [length_map];exact (B.at hp).1)) rfl rfl rfl ?_
 refine zq false (yk (x:=int m) (y:=int p) rfl rfl (by show some (decide ((m:Int)>p))=_;rw [decide_eq_false (by exact BA hm)])) rfl (VW.ok ?_)
 have Q:=HH B hm
 refine yn (t:=tII (v5 bids p m)) (by
  have:=yf (f:=14) (y:=9) (ρ:=isV (tII bids) p m none none none none none none) (elt:=.bin .Add (.bi .list (.cons (.loc 9) .nil)) (.bin .Mult (.lst (.cons (.const (.int 0)) .nil)) (.bin .Sub (.loc 1) (.loc 2)))) (it:=.iobj (.loc 0)) (g:=tI) (h:=fun r=>tI (r++List.replicate (p-m) 0)) (xs:=bids) rfl rfl (by rw [B.np];(exact Ka h9)) (fun r hr=>⟨?_,rfl⟩)
  ·refine this.trans ?_
   unfold tII v5
   rw [map_map];rfl
  ·have lr:=(B.row r hr).1
   refine zN (j7 (ts:=r.map int) rfl rfl (by rw [length_map];(exact Bz h9 hm lr))) (Zz (k:=p-m) (by show Ex.ok (int ((p:Int)-m))=_;rw [Int.ofNat_sub hm]) (by exact By h9)) ?_
   refine (qu (by rw [length_append,length_map,length_replicate];(exact Bx h9 hm lr))).trans ?_
   rw [tI,map_append,List.map_replicate];rfl) rfl rfl rfl ?_
 obtain ⟨pv,ρ1,c1,pl,x,y,rfl,T⟩:=(KN (D9 Q) (by exact Bw h9)).get
 refine vo (t:=tA p (nT pl)) (zF (ts:=[tII (Kf (v5 bids p m))]) (yY (by
  have:=yf (f:=14) (y:=10) (ρ:=isV (tII bids) p m (some (tII (v5 bids p m))) none none none none none) (elt:=.comp (.bin .Sub (.const (.int 0)) (.loc 11)) (.loc 11) (.iobj (.loc 10)) (.const (.bool true))) (it:=.iobj (.loc 3)) (g:=tI) (h:=fun r=>tI (r.map fun x=>0-x)) (xs:=v5 bids p m) rfl rfl (by rw [Q.np];(exact Ka h9)) (fun r hr=>⟨?_,rfl⟩)
  ·refine this.trans ?_
   unfold tII Kf
   rw [map_map];rfl
  ·refine (yf (f:=14) (y:=11) (it:=.iobj (.loc 10)) (g:=int) (h:=fun x=>int (0-x)) (xs:=r) rfl rfl (by rw [Q.row r hr];(exact Ka h9)) (fun x hx=>⟨rfl,rfl⟩)).trans ?_
   rw [tI,map_map];rfl)) rfl rfl c1) rfl rfl ?_
 obtain ⟨pp,ρ2,c2,paid,rfl,rel⟩:=(W3 Q (by exact Ka h9) T.lt (φ:=fun i=>- y (pl i)) fun i j hi hj=>GR Q T hi hj).get
 refine vo (t:=tA p (iT paid)) (zF (ts:=[tII (v5 bids p m),tA p (nT pl)]) rfl rfl rfl c2) rfl rfl ?_
 refine yn (t:=int (wF p paid)) (Jv rfl) rfl rfl rfl ?_
 refine jE (t:=tA 0 fun i=>tN (ja pl m i)) rfl rfl ?_
 refine yI (ts:=yg p (nT pl)) rfl rfl ?_
 refine qm (nT pl) (fun k ρ=>∃ o8,ρ=isV (tII bids) p m (some (tII (v5 bids p m))) (some (tA p (nT pl))) (some (tA p (iT paid))) (some (int (wF p paid))) (some (tA k fun i=>tN (ja pl m i))) o8) (fun k ρ hk z=>?_) (fun ρ z=>?_) ⟨_,rfl⟩
 ·obtain ⟨o8,rfl⟩:=z
  exact Ah (o8:=o8) (by exact Bv h9 hk) ⟨_,rfl⟩
 ·obtain ⟨o8,rfl⟩:=z
  exact zR (Vm rfl (Jw (n:=p) rfl (by exact Ka h9) (fun _=>rfl) (fun _=>rfl) (fun _=>rfl) rfl)) rfl ⟨pl,paid,x,y,rfl,T,rel⟩
theorem uc:∀ (n:Nat) (a:Nat),yh a n=(List.range' a n).map fun k:Nat=>int k
 | 0,_=>rfl
 |n+1,a=>by
  rw [yh,List.range'_succ,map_cons]
  exact congrArg _ (uc n (a+1))
theorem jV {n:Nat} (h:n<=1000):ku (int 0) (int (n:Int))=.ok (yg n fun k=>int k):=by
 rw [GM h,show yh 0 n=_ from uc n 0,<- List.range_eq_range'];rfl
theorem uw {f:Nat} {ρ:VS} {e:za} {ts:List Tr} {n:Nat} (h:EP f e ρ=.ok (.nd .lst ts)) (l:ts.length=n) (hn:n<=1000):EI f (.irange (.bi .len (.cons e .nil))) ρ=.ok (yg n fun k=>int k):=Jq (yE h l) (jV hn)
section
variable {bids:List (List Int)} {p m:Nat}
theorem j9.rd {i j:Nat} (B:j9 bids p m) (hi:i<p) (hj:j<m):vz (tII bids) (int i)=some (tI (bids.getD i []))/\vz (tI (bids.getD i [])) (int j)=some (int (bA bids i j)) :=
 ⟨qO (yt (by rw [B.np];exact hi)),qO (yt (by rw [(B.at hi).1];exact hj))⟩
noncomputable def wnK (bids:List (List Int)) (j:Nat):Nat->Nat
 | 0=>0
 |k+1=>if bA bids k j>bA bids (wnK bids j k) j then k else wnK bids j k
theorem xO {j:Nat}:∀ {k p:Nat},0<p->k<=p->wnK bids j k<p
 | 0,_,h,_=>h
 |k+1,p,h,l=>by
  unfold wnK
  by_cases q:bA bids k j>bA bids (wnK bids j k) j
  ·rw [if_pos q];exact l
  ·rw [if_neg q];exact xO h (le_of_succ_le l)
theorem QS {j:Nat}:∀ {k i:Nat},i<k->bA bids i j<=bA bids (wnK bids j k) j
 |k+1,i,h=>by
  unfold wnK
  have z:i≠k->i<k:=fun n=>lt_of_le_of_ne (le_of_lt_succ h) n
  by_cases q:bA bids k j>bA bids (wnK bids j k) j
  ·rw [if_pos q]
   by_cases e:i=k
   ·rw [e];exact Int.le_refl _
   ·exact Int.le_trans (QS (z e)) (Int.le_of_lt q)
  ·rw [if_neg q]
   by_cases e:i=k
   ·rw [e];exact Int.not_lt.mp q
   ·exact QS (z e)
noncomputable def wbb (g b i:Nat):zk:=(.cons (.ifs (.cmp .Gt (.sub (.sub (.loc 0) (.loc i)) (.loc g)) (.sub (.sub (.loc 0) (.loc b)) (.loc g))) (.cons (.assign b (.loc i)) .nil) .nil) .nil)
theorem qN {f x:Nat} {ρ:VS} {t:Tr} (h:ρ[x]?=some (some t)):EP f (.loc x) ρ=.ok t:=by
 show yx x ρ=_
 unfold yx;rw [h]
theorem Yj {ρ:VS} {x:Nat} {t:Option Tr} (h:ρ[x]?=some t):ρ.set x t=ρ:=by
 apply ext_getElem?
 intro j
 by_cases q:x=j
 ·subst q;rw [getElem?_set_self (List.getElem?_eq_some_iff.mp h).1,h]
 ·rw [getElem?_set_ne q]
theorem XO (B:j9 bids p m) {f g b i k j:Nat} {ρ:VS} {P:VF->VS->Prop} (hk:k<p) (hj:j<m) (h0:ρ[0]?=some (some (tII bids))) (hg:ρ[g]?=some (some (int j))) (hb:ρ[b]?=some (some (int (wnK bids j k)))) (hi:ρ[i]?=some (some (int k))) (sb:(sg f).sh.getD b .i=.i)
  (q:P .next (ρ.set b (some (int (wnK bids j (k+1)))))):VW (X f (wbb g b i) ρ) P:=by
 have a:=B.rd hk hj
 have c:=B.rd (xO (bids:=bids) (j:=j) (zero_lt_of_lt hk) (Nat.le_of_lt hk)) hj
 refine zq (decide (bA bids k j>bA bids (wnK bids j k) j)) (yk (x_p (zB (zB (qN h0) (qN hi) a.1) (qN hg) a.2) rfl) (zB (zB (qN h0) (qN hb) c.1) (qN hg) c.2) rfl) rfl ?_
 unfold wnK at q
 by_cases z:bA bids k j>bA bids (wnK bids j k) j
 ·rw [decide_eq_true z]
  rw [if_pos z] at q
  exact yn (qN hi) rfl sb (Bool.or_true _) q
 ·rw [decide_eq_false z]
  rw [if_neg z,Yj hb] at q
  exact .ok q
noncomputable def wn (bids:List (List Int)) (p j:Nat):Nat:=wnK bids j p
theorem WT (B:j9 bids p m) (hp:p<=9) {j:Nat} (hj:j<m):zL 12 [tII bids,int j] (int (wn bids p j)):=by
 refine yo (zS (d:=Kp) rfl rfl rfl rfl rfl ?_)
 refine yn (t:=int (wnK bids j 0)) rfl rfl rfl rfl ?_
 refine yI (uw (n:=p) (ts:=bids.map tI) rfl (by rw [length_map,B.np]) (Nat.le_trans hp (by decide))) rfl ?_
 refine qm _ (fun k ρ=>∃ o,ρ=[some (tII bids),some (int j),some (int (wnK bids j k)),o]) (fun k ρ hk z=>?_) (fun ρ z=>?_) ⟨none,rfl⟩
 ·obtain ⟨o,rfl⟩:=z
  exact XO (g:=1) (b:=2) (i:=3) B hk hj rfl rfl rfl rfl rfl ⟨_,rfl⟩
 ·obtain ⟨o,rfl⟩:=z
  exact zR (t:=int (wnK bids j p)) rfl rfl rfl
noncomputable def hpK (bids:List (List Int)) (p:Nat):Nat->Nat->List Nat
 | 0,_=>[]
 |k+1,i=>if wn bids p k=i then hpK bids p k i++[k] else hpK bids p k i
theorem wg:∀ {k i:Nat},(hpK bids p k i).length<=k
 | 0,_=>Nat.le_refl _
 |k+1,i=>by
  unfold hpK
  by_cases q:wn bids p k=i
  ·rw [if_pos q,length_append];exact succ_le_succ wg
  ·rw [if_neg q];exact le_succ_of_le wg
theorem wf {x:Nat}:∀ {k i:Nat},x∈hpK bids p k i ↔ x<k/\wn bids p x=i
 | 0,_=>by simp [hpK]
 |k+1,i=>by
  unfold hpK
  by_cases q:wn bids p k=i
  ·rw [if_pos q,mem_append,wf,mem_singleton,lt_succ_iff_lt_or_eq]
   exact ⟨fun h=>h.elim (fun h=>⟨.inl h.1,h.2⟩) fun h=>⟨.inr h,h▸q⟩,fun h=>h.1.elim (fun l=>.inl ⟨l,h.2⟩) .inr⟩
  ·rw [if_neg q,wf,lt_succ_iff_lt_or_eq]
   exact ⟨fun h=>⟨.inl h.1,h.2⟩,fun h=>h.1.elim (fun l=>⟨l,h.2⟩) fun e=>absurd (e▸h.2) q⟩
noncomputable def hpT (bids:List (List Int)) (p k:Nat):Tr:=tA p fun i=>tN (hpK bids p k i)
theorem Zk {k:Nat}:upd (fun i=>tN (hpK bids p k i)) (wn bids p k) (.nd .lst ((hpK bids p k (wn bids p k)).map (fun x:Nat=>int x)++[int k]))=fun i=>tN (hpK bids p (k+1) i):=by
 funext i
 by_cases e:i=wn bids p k
 ·rw [e,zo,hpK,if_pos rfl,tN,map_append];rfl
 ·rw [zu e,hpK,if_neg (Ne.symm e)]
theorem WP {n k:Nat} {g:Nat->Tr} {h:Tr->Tr} {t:Tr} (e:h (g k)=t):(yg n g).modify k h=yg n (upd g k t):=by
 apply ext_getElem?
 intro i
 by_cases q:i<n
 ·by_cases z:k=i
  ·subst z;rw [getElem?_modify_eq,qA q,qA q,zo,<- e];rfl
  ·rw [getElem?_modify_ne _ _ z,qA q,qA q,zu (Ne.symm z)]
 ·have l:=le_of_not_lt q
  rw [getElem?_eq_none (by rw [length_modify,yu];exact l),getElem?_eq_none (by rw [yu];exact l)]
theorem XM {f x n w:Nat} {ρ:VS} {i e:za} {g:Nat->Tr} {us:List Tr} {t:Tr} (hx:ρ[x]?=some (some (tA n g))) (hs:(sg f).sh.getD x .i=.L (.L .i)) (hi:EP f i ρ=.ok (int w)) (hw:w<n) (hg:g w=.nd .lst us) (l:us.length<=1000) (he:EP f e ρ=.ok t) (st:zM (cls (sg f).sh e) t=true) :
  EX f (.meth .append (.sub (.loc x) i) (.cons e .nil)) ρ=.ok (.sc .none) (ρ.set x (some (tA n (upd g w (.nd .lst (us++[t])))))):=by
 show (((yx x ρ).bind fun t=>(EP f i ρ).bind fun y=>(Ex.opt (Qc t y)).bind fun j=>.ok (x,[j])).on ρ).bind _=_
 rw [show yx x ρ=.ok (tA n g) from qN (f:=f) hx,hi]
 show ((((Ex.opt (yX (w:Int) (yg n g).length)).bind fun j=>.ok (x,[j])).on ρ).bind _)=_
 rw [yu,ju hw]
 show VR.opt (yB (sg f).sh (x,[w]) ρ) _=_
 rw [show yB (sg f).sh (x,[w]) ρ=some us from by
  unfold yB;rw [hs,hx]
  show ((yg n g)[w]?.bind (Km [])).bind Jk=_
  rw [qA hw,hg];rfl]
 show ((ES f (.cons e .nil) ρ).on ρ).bind _=_
 rw [yY he]
 show VR.opt (cond (zM (cls (sg f).sh e) t&&true) (if us.length<lim then some (Tr.sc .none,us++[t]) else none) none) _=_
 rw [st,if_pos (lt_of_le_of_lt l (by decide))]
 show VR.ok (Tr.sc .none) (ρ.modify x (Option.map fun u=>vV [w] (.nd .lst (us++[t])) u))=_
 refine congrArg (VR.ok _) ?_
 apply ext_getElem?
 intro j
 by_cases q:x=j
 ·subst q
  rw [getElem?_modify_eq,hx,getElem?_set_self (List.getElem?_eq_some_iff.mp hx).1]
  show some (some (Tr.nd .lst ((yg n g).modify w (vV [] (.nd .lst (us++[t]))))))=_
  rw [WP (t:=.nd .lst (us++[t])) rfl];rfl
 ·rw [getElem?_modify_ne _ _ q,getElem?_set_ne q]
end
section
variable {bids:List (List Int)} {p m:Nat}
noncomputable def wI (bids:List (List Int)) (i:Nat) (hs:List Nat):Int:=(hs.map (bA bids i)).sum
theorem XN (B:j9 bids p m) {i:Nat} {hs:List Nat} (hi:i<p) (l:hs.length<=1000) (h:∀ x∈hs,x<m):zL 0 [tI (bids.getD i []),tN hs] (int (wI bids i hs)):=by
 refine yo (zS (d:=WC) rfl rfl rfl rfl rfl ?_)
 have e:=yf (f:=0) (y:=2) (ρ:=[some (tI (bids.getD i [])),some (tN hs),none]) (elt:=.sub (.loc 0) (.loc 2)) (it:=.iobj (.loc 1)) (g:=fun k:Nat=>int k) (h:=fun x=>int (bA bids i x)) (xs:=hs) rfl rfl l fun x hx=>⟨zB rfl rfl (B.rd hi (h x hx)).2,Bool.or_true _⟩
 exact z8 (x_p (TZ e wP) rfl) rfl (Bool.or_true _) rfl
theorem Qs (B:j9 bids p m) {i:Nat} {hs:List Nat} (hi:i<p) (h:∀ x∈hs,x<m):zL 27 [tI (bids.getD i []),tN hs] (int (wI bids i hs)):=by
 refine yo (zS (d:=xh) rfl rfl rfl rfl rfl ?_)
 refine yn (t:=int 0) rfl rfl rfl rfl ?_
 refine yI (ts:=hs.map fun k:Nat=>int k) rfl rfl ?_
 have key:∀ (us:List Nat) (a:Int) (o:Option Tr),(∀ x∈us,x<m)->VW (jF (fun x ρ=>X 27 (.cons (.assign 2 (.bin .Add (.loc 2) (.sub (.loc 0) (.loc 3)))) .nil) (ρ.set 3 (some x))) (us.map fun k:Nat=>int k) [some (tI (bids.getD i [])),some (tN hs),some (int a),o]) fun q ρ=>q=.next/\∃ o,ρ=[some (tI (bids.getD i [])),some (tN hs),some (int (a+wI bids i us)),o]:=by
  intro us
  induction us with
  |nil=>exact fun a o _=>.ok ⟨rfl,o,by show _=[_,_,some (int (a+0)),o];rw [add_zero]⟩
  |cons x us ih =>
   intro a o hu
   refine VW.bind (P:=fun q ρ=>q=.next/\ρ=[some (tI (bids.getD i [])),some (tN hs),some (int (a+bA bids i x)),some (int x)]) (yn (zN (x:=int a) rfl (zB rfl rfl (B.rd hi (hu x (.head _))).2) rfl) rfl rfl rfl ⟨rfl,rfl⟩) fun q ρ z=>?_
   obtain ⟨rfl,rfl⟩:=z
   refine (ih (a+bA bids i x) (some (int x)) fun y hy=>hu y (.tail _ hy)).mono fun q ρ z=>⟨z.1,?_⟩
   obtain ⟨_,o,z⟩:=z
   exact ⟨o,by rw [z,Int.add_assoc];rfl⟩
 refine (key hs 0 none h).mono fun q ρ z=>?_
 obtain ⟨rfl,o,rfl⟩:=z
 refine zR (t:=int (wI bids i hs)) ?_ rfl rfl
 show Ex.ok (int (0+wI bids i hs))=_
 rw [Int.zero_add]
noncomputable def own (bids:List (List Int)) (H:Nat->List Nat) (i:Nat):Int:=wI bids i (H i)
theorem T1 {f y x g:Nat} {ρ:VS} {H:Nat->List Nat} (B:j9 bids p m) (hp:p<=9) (hx:∀ i:Nat,EP f (.loc x) (ρ.set y (some (int i)))=.ok (tA p fun i=>tN (H i))) (h0:∀ t:Option Tr,EP f (.loc 0) (ρ.set y t)=.ok (tII bids)) (h0':EP f (.loc 0) ρ=.ok (tII bids)) (hy:∀ t:Tr,EP f (.loc y) (ρ.set y (some t))=.ok t)
  (hg:∀ i<p,zL g [tI (bids.getD i []),tN (H i)] (int (own bids H i))) (l:Nat.blt (sg g).rk (sg f).rk=true) (ok:∀ t u:Tr,(j8 (sg g).ps (jQ (sg f).sh (.cons (.sub (.loc 0) (.loc y)) (.cons (.sub (.loc x) (.loc y)) .nil))) [t,u]&&!false)=true) (hc:(cls (sg f).sh (.irange (.bi .len (.cons (.loc 0) .nil)))).cov ((sg f).sh.getD y .i)=true) :
  EP f (.comp (.call g (.cons (.sub (.loc 0) (.loc y)) (.cons (.sub (.loc x) (.loc y)) .nil))) (.loc y) (.irange (.bi .len (.cons (.loc 0) .nil))) (.const (.bool true))) ρ=.ok (tA p (iT (own bids H))) :=
 yf (g:=fun i:Nat=>int i) (h:=iT (own bids H)) (xs:=List.range p) (uw h0' (by rw [length_map,B.np]) (Nat.le_trans hp (by decide))) hc (by rw [length_range];exact Nat.le_trans hp (by decide)) fun i hi=>by
  have hi:=mem_range.mp hi
  obtain ⟨ρc,z⟩:=hg i hi
  refine ⟨zy (ts:=[tI (bids.getD i []),tN (H i)]) ?_ l (ok _ _) z,Bool.or_true _⟩
  show ((EP f (.sub (.loc 0) (.loc y)) _).bind fun v=>(ES f (.cons (.sub (.loc x) (.loc y)) .nil) _).bind fun l=>Ex.ok (v::l))=_
  rw [zB (h0 _) (hy _) (qO (yt (by rw [B.np];exact hi))),yY (zB (hx i) (hy _) (zG hi))];rfl
noncomputable def vr (bids:List (List Int)) (p m:Nat) (i:Nat):List Nat:=hpK bids p m i
noncomputable def xf (bids:List (List Int)) (p m:Nat):Tr:=yT p (vr bids p m) (qY (own bids (vr bids p m)) p)
theorem Zl {i:Nat}:∀ x∈vr bids p m i,x<m:=fun x h=>(wf.mp h).1
theorem Kl {i:Nat} (hm:m<=40):(vr bids p m i).length<=1000:=Nat.le_trans wg (Nat.le_trans hm (by decide))
noncomputable def hsV (bids:List (List Int)) (o1 o2 o3 o4:Option Tr):VS:=[some (tII bids),o1,o2,o3,o4,none,none,none]
theorem Vi (B:j9 bids p m) (hp:0<p) (h9:p<=9) (hm:m<=40):zL 13 [tII bids] (xf bids p m):=by
 have lp:(bids.map tI).length=p:=by rw [length_map,B.np]
 refine yo (zS (d:=vC) rfl rfl rfl rfl rfl ?_)
 obtain ⟨ρc,lk⟩:=Jl B hp h9 hm
 refine yU (zF (ts:=[tII bids]) rfl rfl rfl lk) ?_
 have pk:p<=1000:=Nat.le_trans h9 (by decide)
 refine jE (t:=hpT bids p 0) (yf (f:=13) (y:=5) (ρ:=hsV bids none none none none) (elt:=.lst .nil) (g:=fun i:Nat=>int i) (h:=fun _=>tN []) (xs:=List.range p) (uw rfl lp pk) rfl (by rw [length_range];exact pk) fun _ _=>⟨rfl,rfl⟩) rfl ?_
 refine yI (uw (n:=m) (Jx (g:=tI) (xs:=bids) (k:=0) (d:=[]) rfl rfl (by rw [B.np];exact hp)) (by rw [length_map];exact (B.at hp).1) (Nat.le_trans hm (by decide))) rfl ?_
 refine qm _ (fun k ρ=>∃ o,ρ=hsV bids (some (hpT bids p k)) o none none) (fun k ρ hk z=>?_) (fun ρ z=>?_) ⟨none,rfl⟩
 ·obtain ⟨o,rfl⟩:=z
  obtain ⟨ρw,w⟩:=WT B h9 hk
  refine yU (XM (x:=1) (w:=wn bids p k) rfl rfl (zy (ts:=[tII bids,int k]) rfl rfl rfl w) (xO hp (Nat.le_refl _)) rfl (by rw [length_map];exact Nat.le_trans wg (Nat.le_trans (Nat.le_of_lt hk) (Nat.le_trans hm (by decide)))) (t:=int k) rfl rfl) ?_
  rw [Zk];exact ⟨_,rfl⟩
 ·obtain ⟨o,rfl⟩:=z
  refine yn (T1 (x:=1) (H:=vr bids p m) B h9 (fun _=>rfl) (fun _=>rfl) rfl (fun _=>rfl) (fun i hi=>XN B hi (Kl hm) Zl) rfl (fun _ _=>rfl) rfl) rfl rfl rfl ?_
  refine yn (Jv rfl) rfl rfl rfl ?_
  exact zR (Vm rfl (Jw (n:=p) rfl pk (fun _=>yE (ts:=bids.map tI) rfl lp) (fun _=>rfl) (fun _=>rfl) rfl)) rfl rfl
theorem Gb {f:Nat} {ρ:VS} {Q:VF->VS->Prop} {a b:za} {r:zk} {t u:Tr} (ha:EP f a ρ=.ok t) (hb:EP f b ρ=.ok u) (hr:(sg f).rs=.i) (he:xo (sg f).sh (npO f) [a,b] [t,u]=true) (k:Q (.ret (.nd .tup [t,u])) ρ):VW (X f (.cons (.ret (.tup (.cons a (.cons b .nil)))) r) ρ) Q:=by
 refine yJ ?_
 show VW ((wE sg (sg f).sh (XC f) (npO f) (sg f).rs (.tup (.cons a (.cons b .nil))) ρ).bind fun t ρ=>.ok (VF.ret t) ρ) _
 rw [hr]
 show VW ((((((EP f a ρ).bind fun v=>((EP f b ρ).bind fun w=>Ex.bind (.ok []) fun l=>.ok (w::l)).bind fun l=>Ex.ok (v::l)).bind fun ts=>cond (xo (sg f).sh (npO f) [a,b] ts) (if ts.length<=lim then .ok (Tr.nd .tup ts) else .stuck) .stuck).on ρ).bind fun t ρ=>.ok (VF.ret t) ρ)) _
 rw [ha,hb]
 show VW ((((cond (xo (sg f).sh (npO f) [a,b] [t,u]) (Ex.ok (Tr.nd .tup [t,u])) .stuck).on ρ).bind fun t ρ=>.ok (VF.ret t) ρ)) _
 rw [he];exact .ok k
noncomputable def byV (bids:List (List Int)) (m:Nat) (o2 o3 o4 o5 o6:Option Tr):VS:=[some (tII bids),some (int m),o2,o3,o4,o5,o6,none,none,none]
theorem wZ (B:j9 bids p m) (hp:0<p) (h9:p<=9) (hm:m<=40):zL 72 [tII bids,int m] (xf bids p m):=by
 have lp:(bids.map tI).length=p:=by rw [length_map,B.np]
 have pk:p<=1000:=Nat.le_trans h9 (by decide)
 refine yo (zS (d:=vw) rfl rfl rfl rfl rfl ?_)
 refine jE (t:=hpT bids p 0) (by
  refine (yf (f:=72) (y:=7) (ρ:=byV bids m none none none none none) (elt:=.lst .nil) (it:=.iobj (.loc 0)) (g:=tI) (h:=fun _=>tN []) (xs:=bids) rfl rfl (by rw [B.np];exact pk) fun _ _=>⟨rfl,rfl⟩).trans ?_
  rw [List.map_const',B.np]
  show _=Ex.ok (tA p fun _=>tN [])
  rw [tA,<- JE,flatten_replicate_singleton]) rfl ?_
 refine yI (Jq (x:=int m) rfl (jV (Nat.le_trans hm (by decide)))) rfl ?_
 refine qm _ (fun k ρ=>∃ o3 o4 o5,ρ=byV bids m (some (hpT bids p k)) o3 o4 o5 none) (fun k ρ hk z=>?_) (fun ρ z=>?_) ⟨none,none,none,rfl⟩
 ·obtain ⟨o3,o4,o5,rfl⟩:=z
  refine yn (t:=int 0) rfl rfl rfl rfl ?_
  refine yI (uw (n:=p) (ts:=bids.map tI) rfl lp pk) rfl ?_
  refine qm _ (fun i ρ=>∃ o5,ρ=byV bids m (some (hpT bids p k)) (some (int k)) (some (int (wnK bids k i))) o5 none) (fun i ρ hi z=>?_) (fun ρ z=>?_) ⟨o5,rfl⟩
  ·obtain ⟨o5,rfl⟩:=z
   exact XO (g:=3) (b:=4) (i:=5) B hi hk rfl rfl rfl rfl rfl ⟨_,rfl⟩
  ·obtain ⟨o5,rfl⟩:=z
   refine yU (XM (x:=2) (w:=wn bids p k) rfl rfl rfl (xO hp (Nat.le_refl _)) rfl (by rw [length_map];exact Nat.le_trans wg (Nat.le_trans (Nat.le_of_lt hk) (Nat.le_trans hm (by decide)))) (t:=int k) rfl rfl) ?_
   rw [Zk];exact ⟨_,_,_,rfl⟩
 ·obtain ⟨o3,o4,o5,rfl⟩:=z
  refine yn (T1 (x:=2) (H:=vr bids p m) B h9 (fun _=>rfl) (fun _=>rfl) rfl (fun _=>rfl) (fun i hi=>Qs B hi Zl) rfl (fun _ _=>rfl) rfl) rfl rfl rfl ?_
  exact Gb rfl (Jw (n:=p) rfl pk (fun _=>yE (ts:=bids.map tI) rfl lp) (fun _=>Jv rfl) (fun _=>rfl) rfl) rfl rfl rfl
end
theorem xD {n:Nat} {i:Int}:tEq n (int i) (int i)=some true:=by
 have e:eqP (.int i) (.int i)=some true:=congrArg some (beq_self_eq_true i)
 cases n <;> exact e
theorem Qh {f:Tr->Tr->Option Bool}:∀ {ts:List Tr},(∀ t∈ts,f t t=some true)->JR f ts ts=some true
 | [],_=>rfl
 |t::ts,h=>by
  show (f t t).bind _=_
  rw [h t (.head _)]
  show (JR f ts ts).map _=_
  rw [Qh fun u hu=>h u (.tail _ hu)];rfl
theorem K1 {n:Nat} {k:K} {b:Bool} {ts:List Tr} (hk:k.seq=some b) (h:∀ t∈ts,tEq n t t=some true):tEq (n+1) (.nd k ts) (.nd k ts)=some true:=by
 show (k.seq.bind fun a=>k.seq.bind fun c=>if a=c then (if ts.length=ts.length then JR (tEq n) ts ts else if a then some false else none) else some false)=_
 rw [hk]
 show (if b=b then (if ts.length=ts.length then JR (tEq n) ts ts else if b then some false else none) else some false)=_
 rw [if_pos rfl,if_pos rfl,Qh h]
theorem xC {α:Type} {n:Nat} {g:α->Tr} {xs:List α} (h:∀ x,tEq n (g x) (g x)=some true):tEq (n+1) (.nd .lst (xs.map g)) (.nd .lst (xs.map g))=some true:=K1 (b:=true) rfl fun t ht=>by
 obtain ⟨x,_,rfl⟩:=mem_map.mp ht
 exact h x
theorem wv {n p:Nat} {H:Nat->List Nat} {S:Nat->Int}:tEq (n+3) (yT p H S) (yT p H S)=some true:=K1 (b:=false) rfl fun t ht=>by
 rcases mem_cons.mp ht with rfl | ht
 ·exact xC fun i=>xC fun x=>xD
 ·obtain rfl:=mem_singleton.mp ht
  exact xC fun i=>xD
theorem XG {n:Nat} {g h:Nat->Tr} (e:∀ j,j<n->g j=h j):yg n g=yg n h:=map_congr_left fun j hj=>e j (mem_range.mp hj)
theorem Qe {f:Nat} {ρ:VS} {op:Operator} {a b:za} {t:Tr} (h:EP f (.bin op a b) ρ=.ok t) (he:eff sg b=false):EX f (.bin op a b) ρ=.ok t ρ:=by
 show cond (eff sg b) _ ((EP f (.bin op a b) ρ).on ρ)=_
 rw [he,h];rfl
structure Vy (bids:List (List Int)) (p m:Nat) (H:Nat->List Nat) (S:Nat->Int):Prop where
 mem:∀ i,i<p->∀ x∈H i,x<m
 one:∀ j,j<m->((List.range p).flatMap H).count j=1
 zero:wF p S=0
 fair:∀ i j,i<p->j<p->p*wI bids i (H j)-S j<=p*wI bids i (H i)-S i
theorem vM {t:Tr} (h:okT t=true):zL 22 [t] (bool (qJ t)):=by
 refine yo (zS (d:=xj) rfl rfl rfl rfl rfl ?_)
 cases t with
 |sc v=>cases v <;> exact .ok rfl
 |nd k ts=>cases k with
  |inst=>cases h
  | _=>exact .ok rfl
section
variable {bids:List (List Int)} {p m:Nat} {H:Nat->List Nat} {S:Nat->Int}
theorem Vb (hp:p<=9):zL 28 [tA p (iT S),int p] (bool true):=by
 refine yo (zS (d:=vu) rfl rfl rfl rfl rfl ?_)
 have el:EP 28 (.bi .len (.cons (.loc 0) .nil)) [some (tA p (iT S)),some (int p),none]=.ok (int p):=yE (ts:=yg p (iT S)) rfl yu
 refine zq false (x_p (jO (t:=bool false) rfl rfl (zJ (c:=false) el (y:=int p) rfl (by show (some ((p:Int)==p)).map _=_;rw [beq_self_eq_true];rfl))) rfl) rfl (VW.ok ?_)
 refine yI (ts:=yg p (iT S)) rfl rfl ?_
 refine qm (iT S) (fun _ ρ=>∃ o,ρ=[some (tA p (iT S)),some (int p),o]) (fun k ρ hk z=>?_) (fun ρ z=>?_) ⟨none,rfl⟩
 ·obtain ⟨o,rfl⟩:=z
  obtain ⟨ρc,c⟩:=vM (t:=int (S k)) rfl
  exact zq false (w7 (b:=true) (zF (ts:=[int (S k)]) rfl rfl rfl c) rfl) rfl (VW.ok ⟨_,rfl⟩)
 ·obtain ⟨o,rfl⟩:=z
  exact zR (t:=bool true) rfl rfl rfl
noncomputable def lhb:zk :=
 (.cons (.ifs (.or (.un .Not (.call 22 (.cons (.loc 5) .nil))) (.or (.cmp .Lt (.loc 5) (.const (.int 0))) (.cmp .GtE (.loc 5) (.loc 2))))
 (.cons (.ret (.const (.bool false)))
 .nil)
 .nil)
 (.cons (.asub (.loc 3) (.loc 5) (.bin .Add (.sub (.loc 3) (.loc 5)) (.const (.int 1))))
 .nil))
noncomputable def lhV (p m:Nat) (H:Nat->List Nat) (us:List Nat) (o4 o5:Option Tr):VS:=[some (tA p fun i=>tN (H i)),some (int p),some (int m),some (tA m fun j=>int (us.count j:Nat)),o4,o5]
theorem U6 {us:List Nat} {x:Nat}:upd (fun j=>int (us.count j:Nat)) x (int ((us.count x:Nat)+1))=fun j=>int ((us++[x]).count j:Nat):=by
 funext j
 rw [count_append,count_singleton]
 by_cases e:j=x
 ·subst e;rw [zo,beq_self_eq_true,if_pos rfl];rfl
 ·rw [zu e,beq_false_of_ne (Ne.symm e)];rfl
theorem US {us:List Nat} {x:Nat} {o4:Option Tr} {P:VF->VS->Prop} (hx:x<m) (k:P .next (lhV p m H (us++[x]) o4 (some (int x)))):VW (X 32 lhb (lhV p m H us o4 (some (int x)))) P:=by
 obtain ⟨ρc,c⟩:=vM (t:=int x) rfl
 refine zq false (x_p (jO (t:=bool false) (ji (zy (ts:=[int x]) rfl rfl rfl c) rfl) rfl (jO (t:=bool false) (zJ (x:=int x) (y:=int 0) rfl rfl (by show some (decide ((x:Int)<0))=_;rw [decide_eq_false (Int.not_lt.mpr (natCast_nonneg x))])) rfl (zJ (c:=false) (x:=int x) (y:=int m) rfl rfl (by show some (decide ((x:Int)≥m))=_;rw [decide_eq_false (Int.not_le.mpr (ofNat_lt.mpr hx))])))) rfl) rfl (VW.ok ?_)
 refine kq (g:=fun j=>int (us.count j:Nat)) (k:=x) (zN (zB (y:=int x) rfl rfl (zG hx)) (y:=int 1) rfl rfl) rfl rfl hx rfl rfl ?_
 show P .next (lhV p m H us o4 (some (int x)) |>.set 3 (some (tA m (upd (fun j=>int (us.count j:Nat)) x (int ((us.count x:Nat)+1))))))
 rw [U6];exact k
theorem Xb (D:Vy bids p m H S) (hp:p<=9) (hm:m<=40):zL 32 [tA p fun i=>tN (H i),int p,int m] (bool true):=by
 refine yo (zS (d:=xl) rfl rfl rfl rfl rfl ?_)
 have el:EP 32 (.bi .len (.cons (.loc 0) .nil)) [some (tA p fun i=>tN (H i)),some (int p),some (int m),none,none,none]=.ok (int p):=yE (ts:=yg p fun i=>tN (H i)) rfl yu
 refine zq false (x_p (jO (t:=bool false) rfl rfl (zJ (c:=false) el (y:=int p) rfl (by show (some ((p:Int)==p)).map _=_;rw [beq_self_eq_true];rfl))) rfl) rfl (VW.ok ?_)
 have hk:m<=1000:=Nat.le_trans hm (by decide)
 refine vO (n:=m) rfl hk rfl rfl ?_
 refine yI (ts:=yg p fun i=>tN (H i)) rfl rfl ?_
 refine qm (fun i=>tN (H i)) (fun i ρ=>∃ o4 o5,ρ=lhV p m H ((List.range i).flatMap H) o4 o5) (fun i ρ hi z=>?_) (fun ρ z=>?_) ⟨none,none,rfl⟩
 ·obtain ⟨o4,o5,rfl⟩:=z
  refine zq (c:=.un .Not (.isinst .list (.loc 4))) false rfl rfl (VW.ok ?_)
  refine yI (ts:=(H i).map fun k:Nat=>int k) rfl rfl ?_
  have key:∀ (us vs:List Nat) (o5:Option Tr),(∀ x∈us,x<m)->VW (jF (fun x ρ=>X 32 lhb (ρ.set 5 (some x))) (us.map fun k:Nat=>int k) (lhV p m H vs (some (tN (H i))) o5)) fun q ρ=>q=.next/\∃ o5,ρ=lhV p m H (vs++us) (some (tN (H i))) o5:=by
   intro us
   induction us with
   |nil=>exact fun vs o5 _=>.ok ⟨rfl,o5,by rw [append_nil]⟩
   |cons x us ih =>
    intro vs o5 hu
    refine VW.bind (P:=fun q ρ=>q=.next/\ρ=lhV p m H (vs++[x]) (some (tN (H i))) (some (int x))) (US (hu x (.head _)) ⟨rfl,rfl⟩) fun q ρ z=>?_
    obtain ⟨rfl,rfl⟩:=z
    have:=ih (vs++[x]) (some (int x)) fun y hy=>hu y (.tail _ hy)
    rw [append_assoc] at this
    exact this
  refine (key (H i) _ o5 (D.mem i hi)).mono fun q ρ z=>?_
  obtain ⟨rfl,o5,rfl⟩:=z
  refine ⟨some (tN (H i)),o5,?_⟩
  rw [range_succ,List.flatMap_append,List.flatMap_singleton]
 ·obtain ⟨o4,o5,rfl⟩:=z
  refine z8 (t:=bool true) ?_ rfl rfl rfl
  refine yk (x_p rfl rfl) (Zz (k:=m) rfl hk) ?_
  rw [show (tA m fun j=>int (((List.range p).flatMap H).count j:Nat))=.nd .lst (List.replicate m (int 1)) from congrArg (Tr.nd .lst) (by
   rw [<- flatten_replicate_singleton,JE]
   exact XG fun j hj=>by rw [D.one j hj];rfl)]
  exact K1 (n:=7) (k:=.lst) (b:=true) (ts:=List.replicate m (int 1)) rfl fun t ht=>by rw [List.eq_of_mem_replicate ht];exact xD
theorem Ze (D:Vy bids p m H S) (hp:p<=9) (hm:m<=40):zL 33 [yT p H S,int p,int m] (bool true):=by
 refine yo (zS (d:=uC) rfl rfl rfl rfl rfl ?_)
 refine zq (t:=bool false) false rfl rfl (VW.ok ?_)
 obtain ⟨ρ1,c1⟩:=Xb D hp hm
 obtain ⟨ρ2,c2⟩:=Vb (S:=S) hp
 refine z8 (t:=bool true) (x_p (zW (t:=bool true) (zy (ts:=[tA p fun i=>tN (H i),int p,int m]) rfl rfl rfl c1) rfl (zW (t:=bool true) (zy (ts:=[tA p (iT S),int p]) rfl rfl rfl c2) rfl (zJ (Jv (u:=S) rfl) (y:=int 0) rfl ?_))) rfl) rfl rfl rfl
 rw [D.zero];rfl
theorem Xo (B:j9 bids p m) (D:Vy bids p m H S) (hp:p<=9):zL 34 [tII bids,tA p fun i=>tN (H i),tA p (iT S)] (bool false):=by
 refine yo (zS (d:=wm) rfl rfl rfl rfl rfl ?_)
 have pk:p<=1000:=Nat.le_trans hp (by decide)
 refine yn (t:=int p) (yE (ts:=bids.map tI) rfl (by rw [length_map,B.np])) rfl rfl rfl ?_
 have ev:∀ {i j y:Nat} {ρ:VS},i<p->j<p->EP 34 (.loc 0) ρ=.ok (tII bids)->EP 34 (.loc 1) ρ=.ok (tA p fun i=>tN (H i))->EP 34 (.loc 2) ρ=.ok (tA p (iT S))->EP 34 (.loc 3) ρ=.ok (int p)->EP 34 (.loc 4) ρ=.ok (int i)->EP 34 (.loc y) ρ=.ok (int j) ->
   EP 34 (.bin .Sub (.bin .Mult (.loc 3) (.call 27 (.cons (.sub (.loc 0) (.loc 4)) (.cons (.sub (.loc 1) (.loc y)) .nil)))) (.sub (.loc 2) (.loc y))) ρ=.ok (int (p*wI bids i (H j)-S j)):=by
  intro i j y ρ hi hj e0 e1 e2 e3 e4 ey
  obtain ⟨ρc,c⟩:=Qs B hi (D.mem j hj)
  refine zN (zN e3 (zy (ts:=[tI (bids.getD i []),tN (H j)]) ?_ rfl rfl c) (if_pos (by rw [xa,Bool.or_comm];exact Wk pk))) (zB e2 ey (zG hj)) rfl
  show ((EP 34 (.sub (.loc 0) (.loc 4)) ρ).bind fun v=>(ES 34 (.cons (.sub (.loc 1) (.loc y)) .nil) ρ).bind fun l=>Ex.ok (v::l))=_
  rw [zB e0 e4 (qO (yt (by rw [B.np];exact hi))),yY (zB e1 ey (zG hj))];rfl
 refine yI (Jq (x:=int p) rfl (jV pk)) rfl ?_
 refine qm _ (fun i ρ=>∃ o4 o5 o6,ρ=[some (tII bids),some (tA p fun i=>tN (H i)),some (tA p (iT S)),some (int p),o4,o5,o6]) (fun i ρ hi z=>?_) (fun ρ z=>?_) ⟨none,none,none,rfl⟩
 ·obtain ⟨o4,o5,o6,rfl⟩:=z
  refine vo (Qe (ev (i:=i) (j:=i) (y:=4) hi hi rfl rfl rfl rfl rfl rfl) rfl) rfl rfl ?_
  refine yI (Jq (x:=int p) rfl (jV pk)) rfl ?_
  refine qm _ (fun j ρ=>∃ o6,ρ=[some (tII bids),some (tA p fun i=>tN (H i)),some (tA p (iT S)),some (int p),some (int i),some (int (p*wI bids i (H i)-S i)),o6]) (fun j ρ hj z=>?_) (fun ρ z=>?_) ⟨o6,rfl⟩
  ·obtain ⟨o6,rfl⟩:=z
   refine zq false (yk (Qe (ev (i:=i) (j:=j) (y:=6) hi hj rfl rfl rfl rfl rfl rfl) rfl) (y:=int (p*wI bids i (H i)-S i)) rfl ?_) rfl (VW.ok ⟨_,rfl⟩)
   show some (decide _)=_
   rw [decide_eq_false (Int.not_lt.mpr (D.fair i j hi hj))]
  ·obtain ⟨o6,rfl⟩:=z
   exact ⟨_,_,_,rfl⟩
 ·obtain ⟨o4,o5,o6,rfl⟩:=z
  exact zR (t:=bool false) rfl rfl rfl
end
theorem VQ {w:Nat}:∀ {k:Nat},((List.range k).map fun i=>if w=i then 1 else 0).sum=if w<k then 1 else 0
 | 0=>rfl
 |k+1=>by
  rw [range_succ,map_append,List.sum_append,VQ]
  show _+((if w=k then 1 else 0)+0)=_
  by_cases e:w=k
  ·rw [if_pos e,if_neg (by rw [e];exact lt_irrefl k),if_pos (by rw [e];exact lt_succ_self k)];rfl
  ·rw [if_neg e]
   by_cases l:w<k
   ·rw [if_pos l,if_pos (lt_succ_of_lt l)];rfl
   ·rw [if_neg l,if_neg fun z=>(lt_succ_iff_lt_or_eq.mp z).elim l e];rfl
theorem YC {H:Nat->List Nat} {p j w:Nat} (h:∀ i,i<p->(H i).count j=if w=i then 1 else 0) (hw:w<p):((List.range p).flatMap H).count j=1:=by
 rw [List.count_flatMap,map_congr_left (f:=List.count j ∘ H) (g:=fun i=>if w=i then 1 else 0) fun i hi=>h i (mem_range.mp hi),VQ,if_pos hw]
theorem Qi {k:Nat} {u:Nat->Int}:wF (k+1) u=wF k u+u k:=by
 rw [wF,range_succ,map_append,List.sum_append]
 show _+(u k+0)=_
 rw [add_zero];rfl
theorem VT {own:Nat->Int} {c s:Int}:∀ {k:Nat},wF k (fun i=>own i*c-s)=wF k own*c-k*s
 | 0=>by show (0:Int)=0*c-0*s;rw [Int.zero_mul,Int.zero_mul];rfl
 |k+1=>by rw [Qi,Qi,VT,Int.add_mul,Int.natCast_add,Int.add_mul];show _=_-(_+1*s);rw [Int.one_mul];(first | exact Bs | omega)
theorem x7 {own:Nat->Int} {p:Nat}:wF p (qY own p)=0:=by
 rw [show qY own p=fun i=>own i*p-wF p own from rfl,VT,mul_comm,sub_self]
theorem x8 {own:Nat->Int} {p i j:Nat} {x y:Int} (h:x-own j<=y-own i):p*x-qY own p j<=p*y-qY own p i:=by
 have z:=Int.mul_le_mul_of_nonneg_left h (natCast_nonneg p)
 rw [Int.mul_sub,Int.mul_sub] at z
 unfold qY
 rw [mul_comm (own j),mul_comm (own i)]
 (exact Br z)
section
variable {bids:List (List Int)} {p m:Nat}
theorem Qx {j:Nat}:∀ {k i:Nat},j<k->(hpK bids p k i).count j=if wn bids p j=i then 1 else 0
 |k+1,i,h=>by
  have no:j=k->(hpK bids p k i).count j=0:=fun e=>List.count_eq_zero.mpr fun z=>lt_irrefl k (e▸(wf.mp z).1)
  unfold hpK
  by_cases e:j=k
  ·by_cases q:wn bids p k=i
   ·rw [if_pos q,count_append,no e,e,if_pos q,count_singleton,beq_self_eq_true];rfl
   ·rw [if_neg q,no e,e,if_neg q]
  ·have ih:=Qx (i:=i) (lt_of_le_of_ne (le_of_lt_succ h) e)
   by_cases q:wn bids p k=i
   ·rw [if_pos q,count_append,ih,count_singleton,beq_false_of_ne (Ne.symm e)];rfl
   ·rw [if_neg q,ih]
theorem Tn {i j:Nat}:∀ {hs:List Nat},(∀ x∈hs,bA bids i x<=bA bids j x)->wI bids i hs<=wI bids j hs
 | [],_=>Int.le_refl 0
 |x::hs,h=>Int.add_le_add (h x (.head _)) (Tn fun y hy=>h y (.tail _ hy))
theorem Xk (hp:0<p):Vy bids p m (vr bids p m) (qY (own bids (vr bids p m)) p) where
 mem _ _:=Zl
 one j hj:=YC (w:=wn bids p j) (fun i _=>Qx hj) (xO hp (Nat.le_refl _))
 zero:=x7
 fair i j hi hj:=x8 (by
  show wI bids i (vr bids p m j)-wI bids j (vr bids p m j)<=wI bids i _-wI bids i _
  rw [sub_self]
  exact Int.sub_nonpos_of_le (Tn fun x hx=>(wf.mp hx).2▸QS hi))
theorem AN {pl:Nat->Nat} (lt:∀ i,i<p->pl i<p) (inj:∀ i i',i<p->i'<p->pl i=pl i'->i=i') {j:Nat} (hj:j<p):∃ w,w<p/\pl w=j:=by
 refine Classical.byContradiction fun no=>?_
 have no:∀ i,i<p->pl i≠j:=fun i hi e=>no ⟨i,hi,e⟩
 have:=Q2 p (p-1) (fun i=>if pl i<j then pl i else pl i-1) (fun i hi=>by
  have:=lt i hi;have:=no i hi
  show (if pl i<j then pl i else pl i-1)<_
  by_cases l:pl i<j
  ·rw [if_pos l];(exact Bq hj l)
  ·rw [if_neg l];(exact Bp ‹_› this l)) fun i i' hi hi' e=>inj i i' hi hi' (by
  have e:(if pl i<j then pl i else pl i-1)=(if pl i'<j then pl i' else pl i' - 1):=e
  have:=no i hi;have:=no i' hi'
  by_cases l:pl i<j <;> by_cases l':pl i'<j
  ·rwa [if_pos l,if_pos l'] at e
  ·rw [if_pos l,if_neg l'] at e;(exact Bo e this l l')
  ·rw [if_neg l,if_pos l'] at e;(exact Bn e ‹_› l l')
  ·rw [if_neg l,if_neg l'] at e;(exact Bm e ‹_› this l'))
 (exact Bl hj this)
theorem GS (B:j9 bids p m) {i j:Nat} (hi:i<p):bA (v5 bids p m) i j=if j<m then bA bids i j else 0:=by
 have h1:i<bids.length:=by rw [B.np];exact hi
 have h2:=(B.row _ (getElem_mem h1)).1
 unfold bA v5
 rw [getD_eq_getElem?_getD,getD_eq_getElem?_getD,getElem?_map,getD_eq_getElem?_getD,getD_eq_getElem?_getD,getElem?_eq_getElem h1]
 show ((bids[i]++List.replicate (p-m) 0)[j]?).getD 0=if j<m then (bids[i])[j]?.getD 0 else 0
 by_cases l:j<m
 ·rw [if_pos l,getElem?_append_left (by rw [h2];exact l)]
 ·rw [if_neg l,getElem?_append_right (by rw [h2];exact le_of_not_lt l),List.getElem?_replicate]
  by_cases q:j-bids[i].length<p-m
  ·rw [if_pos q];rfl
  ·rw [if_neg q];rfl
theorem W2 {pl:Nat->Nat} {paid x y:Nat->Int} (B:j9 bids p m) (R:T9 bids p m pl paid x y) (hm:m<=p):Vy bids p m (ja pl m) (qY paid p) where
 mem i _ k h:=by
  unfold ja at h
  by_cases l:pl i<m
  ·rw [if_pos l] at h;rw [mem_singleton.mp h];exact l
  ·rw [if_neg l] at h;exact absurd h not_mem_nil
 one j hj:=by
  obtain ⟨w,hw,rfl⟩:=AN R.best.lt R.best.inj (lt_of_lt_of_le hj hm)
  refine YC (w:=w) (fun i hi=>?_) hw
  unfold ja
  by_cases l:pl i<m
  ·rw [if_pos l,count_singleton]
   by_cases e:w=i
   ·rw [if_pos e,e,beq_self_eq_true];rfl
   ·rw [if_neg e,beq_false_of_ne fun z=>e (R.best.inj w i hw hi z.symm)];rfl
  ·rw [if_neg l,if_neg (show ¬ w=i from fun e=>l (e▸hj))];rfl
 zero:=x7
 fair i j hi hj:=x8 (by
  have e:∀ k,wI bids i (ja pl m k)=bA (v5 bids p m) i (pl k):=fun k=>by
   rw [GS B hi,wI,ja]
   by_cases l:pl k<m
   ·rw [if_pos l,if_pos l];exact add_zero _
   ·rw [if_neg l,if_neg l];rfl
  rw [e,e]
  have:=R.rel i j hi hj
  unfold moI at this
  (exact Bk this))
end
noncomputable abbrev RG:=List (List Int) × Nat
noncomputable def prT (s:RG):Tr:=.nd .tup [tII s.1,int s.2]
noncomputable def tbT (s:RG) (past:List RG):Tr:=.nd .inst [tII s.1,int s.2,.nd .lst (past.map prT)]
noncomputable def w6 (f:Nat) (ts:List Tr) (t tb:Tr):Prop:=∃ ρ,vc f ts=.ok t ρ/\ρ.getD 0 none=some tb
noncomputable def kh (f:Nat) (ts:List Tr) (c:Nat) (tb:Tr):Prop:=∃ ρ,vc f ts=.exc c ρ/\ρ.getD 0 none=some tb
section
variable {f:Nat} {ρ ρ':VS} {e:za} {a b r:zk} {t:Tr} {c:Nat}
theorem vi (h:EX f e ρ=.ok t ρ'):X f (.cons (.expr e) r) ρ=X f r ρ':=by
 show ((EX f e ρ).bind _).bind _=_
 rw [h];rfl
theorem vZ (h:EX f e ρ=.exc c ρ'):X f (.cons (.expr e) r) ρ=.exc c ρ':=by
 show ((EX f e ρ).bind _).bind _=_
 rw [h];rfl
theorem J0 (h:EX f e ρ=.ok t ρ) (ht:zd t=some false):X f (.cons (.ifs e a .nil) r) ρ=X f r ρ:=(KX false h ht).trans rfl
theorem vY (h:EX f e ρ=.ok t ρ) (ht:zd t=some true):X f (.cons (.ifs e (.cons (.raise c) b) a) r) ρ=.exc c ρ:=(KX true h ht).trans rfl
theorem Tx {x:Nat} (h:vN sg (sg f).sh (XC f) ((sg f).sh.getD x .i) e ρ=.ok t) (ho:(((sg f).sh.getD x .i).isI||!decide (npO f<=x))=false):X f (.cons (.assign x e) r) ρ=X f r (ρ.set x (some t)):=by
 show (X f (.assign x e) ρ).bind _=_
 rw [YB h ho];rfl
theorem Yu {x:Nat} (h:EX f e ρ=.ok t ρ') (hs:(sg f).sh.getD x .i=.i) (st:zM (cls (sg f).sh e) t=true):X f (.cons (.assign x e) r) ρ=X f r (ρ'.set x (some t)):=by
 show VR.bind (match (sg f).sh.getD x .i with
  | .i=>(EX f e ρ).bind fun t ρ=>cond (zM (cls (sg f).sh e) t) (.ok VF.next (ρ.set x (some t))) .stuck
  |s=>cond (decide (npO f<=x)) (((vN sg (sg f).sh (XC f) s e ρ).on ρ).bind fun t ρ=>.ok VF.next (ρ.set x (some t))) .stuck) _=_
 rw [hs,h]
 show VR.bind (cond (zM (cls (sg f).sh e) t) (.ok VF.next (ρ'.set x (some t))) .stuck) _=_
 rw [st];rfl
theorem jT {m:Me} {o args:za} {xq:Nat × List Nat} {us as:List Tr} {w:Tr × List Tr} (hx:EX f (.meth m o args) ρ=kF sg (sg f).sh (XC f) m o args ρ) (hp:vP sg (sg f).sh (XC f) o ρ=.ok xq) (ho:yB (sg f).sh xq ρ=some us) (ha:ES f args ρ=.ok as) (hm:W9 m us (jQ (sg f).sh args) as=some w) :
  EX f (.meth m o args) ρ=.ok w.1 (qE xq (.nd .lst w.2) ρ):=by
 rw [hx]
 unfold kF
 rw [hp]
 show VR.opt (yB (sg f).sh xq ρ) _=_
 rw [ho]
 show ((ES f args ρ).on ρ).bind _=_
 rw [ha]
 show VR.opt (W9 m us (jQ (sg f).sh args) as) _=_
 rw [hm];rfl
theorem xH {us:List Tr} {cs:List Sh} (h:xY cs [t]=true) (l:us.length<=1000):W9 .append us cs [t]=some (.sc .none,us++[t]):=by
 unfold W9
 rw [h]
 show (if us.length<lim then some (Tr.sc .none,us++[t]) else none)=_
 rw [if_pos (lt_of_le_of_lt l (by decide))]
section
variable {g:Nat} {args:za} {ts:List Tr} {tb:Tr}
theorem yA (B:Option Tr->VS) (hes:ES f args ρ=.ok ts) (l:Nat.blt (sg g).rk (sg f).rk=true) (ok:(okX (sg f).sh (npO f) (sg g).ps (qL args) ts&&!ts.isEmpty)=true) (hb:∀ ρc,back (sg f).sh (sg g).ps (qL args) ρc ρ=B (ρc.getD 0 none)) (hc:w6 g ts t tb):EX f (.call g args) ρ=.ok t (B (some tb)):=by
 obtain ⟨ρc,z1,z2⟩:=hc
 rw [zF hes l ok z1,hb,z2]
theorem VE (B:Option Tr->VS) (hes:ES f args ρ=.ok ts) (l:Nat.blt (sg g).rk (sg f).rk=true) (ok:(okX (sg f).sh (npO f) (sg g).ps (qL args) ts&&!ts.isEmpty)=true) (hb:∀ ρc,back (sg f).sh (sg g).ps (qL args) ρc ρ=B (ρc.getD 0 none)) (hc:kh g ts c tb):EX f (.call g args) ρ=.exc c (B (some tb)):=by
 obtain ⟨ρc,z1,z2⟩:=hc
 rw [qh hes l ok z1,hb,z2]
theorem ki {o:za} (h:jZ o ρ=true):EX f (.mcall g o args) ρ=EX f (.call g (.cons o args)) ρ:=by
 show cond (jZ o ρ) (QM sg (sg f).sh (XC f) (npO f) g (.cons o args) ρ) .stuck=_
 rw [h];rfl
end
theorem es2 {x y:za} {u:Tr} (h1:EP f x ρ=.ok t) (h2:EP f y ρ=.ok u):ES f (.cons x (.cons y .nil)) ρ=.ok [t,u]:=by
 show ((EP f x ρ).bind fun v=>(ES f (.cons y .nil) ρ).bind fun l=>Ex.ok (v::l))=_
 rw [h1,yY h2];rfl
theorem es3 {x y z:za} {u v:Tr} (h1:EP f x ρ=.ok t) (h2:EP f y ρ=.ok u) (h3:EP f z ρ=.ok v):ES f (.cons x (.cons y (.cons z .nil))) ρ=.ok [t,u,v]:=by
 show ((EP f x ρ).bind fun v=>(ES f (.cons y (.cons z .nil)) ρ).bind fun l=>Ex.ok (v::l))=_
 rw [h1,es2 h2 h3];rfl
end
section
variable {s:RG} {past:List RG}
theorem Vn {f:Nat} {ts:List Tr} {d:zr} {t tb:Tr} {p:VF} {ρ:VS} (h:vc f ts=qr (X f d.body (ts.map some++List.replicate (d.ns-d.np) none))) (hx:X f d.body (ts.map some++List.replicate (d.ns-d.np) none)=.ok p ρ) (hp:qr (.ok p ρ)=.ok t ρ) (h0:ρ.getD 0 none=some tb):w6 f ts t tb:=⟨ρ,by rw [h,hx,hp],h0⟩
theorem wk {f:Nat} {ts:List Tr} {d:zr} {tb:Tr} {c:Nat} {ρ:VS} (h:vc f ts=qr (X f d.body (ts.map some++List.replicate (d.ns-d.np) none))) (hx:X f d.body (ts.map some++List.replicate (d.ns-d.np) none)=.exc c ρ) (h0:ρ.getD 0 none=some tb):kh f ts c tb:=⟨ρ,by rw [h,hx];rfl,h0⟩
theorem jS {t:Tr} {g':Int} (l:past.length<=1000):w6 80 [tbT s past,t,int g'] (.sc .none) (.nd .inst [t,int g',.nd .lst ((past++[s]).map prT)]):=by
 refine Vn (d:=uH) (p:=.next) (ρ:=[some (.nd .inst [t,int g',.nd .lst (past.map prT++[prT s])]),some t,some (int g')]) (z9 rfl rfl rfl rfl rfl) ?_ rfl (by rw [map_append];rfl)
 exact (vi (jT (xq:=(0,[2])) (us:=past.map prT) rfl rfl rfl (as:=[prT s]) rfl (xH rfl (by rw [length_map];exact l)))).trans rfl
theorem yv {c:Sh} {r:List Int}:wL c (r.map int)=true:=or_eq_true_iff.mpr (.inr (by rw [all_map];exact all_eq_true.mpr fun _ _=>rfl))
theorem Ux {bids:List (List Int)} {p m:Nat} (B:j9 bids p m) (hp:p<=9) (hm:m<=40) {a b:Tr}:zL 89 [.nd .inst [tII bids,a,b]] (tII bids):=by
 refine yo (zS (d:=Kr) rfl rfl rfl rfl rfl ?_)
 refine zR (yf (y:=1) (it:=.iobj (.attr (.loc 0) 0)) (elt:=.bi .list (.cons (.loc 1) .nil)) (g:=tI) (h:=tI) (xs:=bids) rfl rfl (by rw [B.np];exact Nat.le_trans hp (by decide)) fun r hr=>⟨j7 (ts:=r.map int) rfl yv ?_,rfl⟩) rfl rfl
 rw [length_map,(B.row r hr).1];exact Nat.le_trans hm (by decide)
theorem jI {t:Tr} (h:okT t=true):Out 81 [tbT s past,t] (.sc .none) (cond (yc s.1.length t) none (some 6)):=by
 obtain ⟨ρc,c⟩:=J1 (t:=t) (n:=s.1.length) h
 have e:EX 81 (.un .Not (.call 2 (.cons (.loc 1) (.cons (.bi .len (.cons (.attr (.loc 0) 0) .nil)) .nil)))) [some (tbT s past),some t]=.ok (bool (!yc s.1.length t)) [some (tbT s past),some t]:=w7 (zF (ts:=[t,int s.1.length]) (es2 rfl (yE (ts:=s.1.map tI) rfl (length_map _))) rfl rfl c) rfl
 have q:=z9 (f:=81) (ts:=[tbT s past,t]) (d:=ke) rfl rfl rfl rfl rfl
 cases z:yc s.1.length t with
 |true=>rw [z] at e;exact ⟨_,q.trans (congrArg qr (J0 e rfl))⟩
 |false=>rw [z] at e;exact ⟨_,q.trans (congrArg qr (vY e rfl))⟩
theorem xK {t:Tr} (h:okT t=true):Out 82 [tbT s past,t] (.sc .none) (cond (yc s.2 t) none (some 7)):=by
 obtain ⟨ρc,c⟩:=J1 (t:=t) (n:=s.2) h
 have e:EX 82 (.un .Not (.call 2 (.cons (.loc 1) (.cons (.attr (.loc 0) 1) .nil)))) [some (tbT s past),some t]=.ok (bool (!yc s.2 t)) [some (tbT s past),some t]:=w7 (zF (ts:=[t,int s.2]) rfl rfl rfl c) rfl
 have q:=z9 (f:=82) (ts:=[tbT s past,t]) (d:=vx) rfl rfl rfl rfl rfl
 cases z:yc s.2 t with
 |true=>rw [z] at e;exact ⟨_,q.trans (congrArg qr (J0 e rfl))⟩
 |false=>rw [z] at e;exact ⟨_,q.trans (congrArg qr (vY e rfl))⟩
end
theorem wj {t:Tr} (h:zX t=true):∃ x:Int,t=int x/\0<=x/\x<=1000000000000:=by
 cases t with
 |nd=>cases h
 |sc v=>cases v with
  |int x=>obtain ⟨h1,h2⟩:=and_eq_true_iff.mp (show (decide (0<=x)&&decide (x<=1000000000000))=true from h);exact ⟨x,rfl,of_decide_eq_true h1,of_decide_eq_true h2⟩
  | _=>cases h
theorem qv:∀ {ts:List Tr},ts.all zX=true->∃ xs:List Int,ts=xs.map int/\∀ x∈xs,0<=x/\x<=1000000000000
 | [],_=>⟨[],rfl,fun _ h=>nomatch h⟩
 |t::ts,h=>by
  obtain ⟨h1,h2⟩:=and_eq_true_iff.mp (all_cons.symm.trans h)
  obtain ⟨x,rfl,hx⟩:=wj h1
  obtain ⟨xs,rfl,hs⟩:=qv h2
  exact ⟨x::xs,rfl,fun y hy=>(mem_cons.mp hy).elim (fun e=>e▸hx) (hs y)⟩
theorem jA {t:Tr} {n:Nat} (h:yc n t=true):∃ k:Nat,k<n/\t=int k:=by
 cases t with
 |nd=>cases h
 |sc v=>cases v with
  |int x =>
   obtain ⟨h1,h2⟩:=and_eq_true_iff.mp (show (decide (0<=x)&&decide (x<n))=true from h)
   obtain ⟨k,rfl⟩:=eq_ofNat_of_zero_le (of_decide_eq_true h1)
   exact ⟨k,ofNat_lt.mp (of_decide_eq_true h2),rfl⟩
  | _=>cases h
structure Okr (s:RG):Prop where
 b:j9 s.1 s.1.length s.2
 h9:s.1.length<=9
 h40:s.2<=40
section
variable {s:RG} {past:List RG}
noncomputable abbrev T2 (s:RG) (past:List RG) (t:Tr):VS:=[some (tbT s past),some t]
noncomputable abbrev nn:Tr:=.sc .none
theorem k0 {f:Nat} {ρ:VS} (h:ρ[0]?=some (some (tbT s past))):EP f (.bi .len (.cons (.attr (.loc 0) 0) .nil)) ρ=.ok (int s.1.length):=by
 refine yE (ts:=s.1.map tI) ?_ (length_map _)
 show (EP f (.loc 0) ρ).bind _=_
 rw [qN h];rfl
theorem Xv {t:Tr} (h:¬ s.1.length<9):kh 83 [tbT s past,t] 2 (tbT s past):=by
 refine wk (d:=kP) (ρ:=T2 s past t) (z9 rfl rfl rfl rfl rfl) (vY (t:=bool true) (yk (x_p (k0 rfl) rfl) (y:=int 9) rfl ?_) rfl) rfl
 show some (decide _)=_
 rw [decide_eq_true (by exact Bj h)]
theorem ZL {t:Tr} (h:s.1.length<9):X 83 kP.body (T2 s past t)=X 83 (.cons (.expr (.call 4 (.cons (.loc 1) (.cons (.attr (.loc 0) 1) .nil)))) (.cons (.expr (.mcall 80 (.loc 0) (.cons (.bin .Add (.mcall 89 (.loc 0) .nil) (.lst (.cons (.bi .list (.cons (.loc 1) .nil)) .nil))) (.cons (.attr (.loc 0) 1) .nil)))) .nil)) (T2 s past t):=by
 refine J0 (t:=bool false) (yk (x_p (k0 rfl) rfl) (y:=int 9) rfl ?_) rfl
 show some (decide _)=_
 rw [decide_eq_false (by exact Bi h)]
theorem ZM {ts:List Tr} {c:Nat} (h:s.1.length<9) (ok:ts.all okT=true) (b:zU s.2 ts=some c):kh 83 [tbT s past,.nd .lst ts] c (tbT s past):=by
 have z:=jd (n:=s.2) ok
 rw [b] at z
 obtain ⟨ρc,z⟩:=z
 exact wk (d:=kP) (ρ:=T2 s past (.nd .lst ts)) (z9 rfl rfl rfl rfl rfl) ((ZL h).trans (vZ (qh (ts:=[.nd .lst ts,int s.2]) rfl rfl rfl z))) rfl
theorem uK (R:Okr s) {f:Nat} {ρ:VS} (h:ρ[0]?=some (some (tbT s past))) (l:Nat.blt (sg 89).rk (sg f).rk=true):EP f (.mcall 89 (.loc 0) .nil) ρ=.ok (tII s.1):=by
 obtain ⟨ρc,c⟩:=Ux R.b R.h9 R.h40 (a:=int s.2) (b:=.nd .lst (past.map prT))
 show (EP f (.loc 0) ρ).bind _=_
 rw [qN h]
 show Zt (XC f 89 [tbT s past])=_
 rw [JI l]
 exact congrArg Zt c
theorem qZ {n:Nat} {ts:List Tr} (h:zU n ts=none):ts.length=n/\ts.all zX=true:=by
 unfold zU at h
 by_cases e:(ts.length:Int)=n
 ·rw [if_pos e] at h
  cases q:ts.all zX with
  |true=>exact ⟨Int.ofNat.inj e,rfl⟩
  |false=>rw [q] at h;cases h
 ·rw [if_neg e] at h;cases h
theorem wW {xs:List Int} (R:Okr s) (h:s.1.length<9) (b:zU s.2 (xs.map int)=none) (l:past.length<=1000):w6 83 [tbT s past,tI xs] nn (tbT (s.1++[xs],s.2) (past++[s])):=by
 have z:=jd (ts:=xs.map int) (n:=s.2) uV
 have lx:=(qZ b).1
 rw [length_map] at lx
 rw [b] at z
 obtain ⟨ρc,z⟩:=z
 refine Vn (d:=kP) (p:=.next) (ρ:=T2 (s.1++[xs],s.2) (past++[s]) (tI xs)) (z9 rfl rfl rfl rfl rfl) ((ZL h).trans ((vi (zF (ts:=[tI xs,int s.2]) rfl rfl rfl z)).trans (vi (t:=nn) ?_))) rfl rfl
 refine (ki rfl).trans (yA (ts:=[tbT s past,tII (s.1++[xs]),int s.2]) (fun o=>[o,some (tI xs)]) (es3 rfl ?_ rfl) rfl rfl (fun _=>rfl) (jS l))
 refine zN (uK R rfl rfl) (y:=.nd .lst [tI xs]) ?_ ?_
 ·show (ES 83 (.cons (.bi .list (.cons (.loc 1) .nil)) .nil) _).bind mkL=_
  rw [yY (j7 (ts:=xs.map int) rfl yv (by rw [length_map,lx];exact Nat.le_trans R.h40 (by decide)))];rfl
 ·refine (qu (by rw [length_append,length_map];exact Nat.le_trans h (by decide))).trans ?_
  rw [tII,map_append];rfl
theorem Xc {t:Tr} (ok:okT t=true) (h:yc s.1.length t=false):kh 84 [tbT s past,t] 6 (tbT s past):=by
 have z:=jI (s:=s) (past:=past) ok
 rw [h] at z
 obtain ⟨ρc,z⟩:=z
 exact wk (d:=wQ) (ρ:=[some (tbT s past),some t,none]) (z9 rfl rfl rfl rfl rfl) (vZ ((ki rfl).trans (qh (ts:=[tbT s past,t]) rfl rfl rfl z))) rfl
theorem QF {α β:Type} {g:α->β}:∀ {xs:List α} {k:Nat},(xs.map g).eraseIdx k=(xs.eraseIdx k).map g
 | [],_=>rfl
 | _::_,0=>rfl
 |x::xs,k+1=>congrArg (g x::·) QF
theorem Vc {k:Nat} (R:Okr s) (h:k<s.1.length) (l:past.length<=1000):w6 84 [tbT s past,int k] nn (tbT (s.1.eraseIdx k,s.2) (past++[s])):=by
 have z:=jI (s:=s) (past:=past) (t:=int k) rfl
 rw [show yc s.1.length (int k)=true from by show (decide (0<=(k:Int))&&decide ((k:Int)<s.1.length))=true;rw [decide_eq_true (natCast_nonneg k),decide_eq_true (ofNat_lt.mpr h)];rfl] at z
 obtain ⟨ρc,z⟩:=z
 refine Vn (d:=wQ) (p:=.next) (ρ:=[some (tbT (s.1.eraseIdx k,s.2) (past++[s])),some (int k),none]) (z9 rfl rfl rfl rfl rfl) ((vi ((ki rfl).trans (zF (ts:=[tbT s past,int k]) rfl rfl rfl z))).trans ((Tx (f:=84) (x:=2) (t:=tII s.1) ?_ rfl).trans ((vi (jT (xq:=(2,[])) (us:=s.1.map tI) (w:=(tI (s.1.getD k []),(s.1.eraseIdx k).map tI)) rfl rfl rfl (as:=[int k]) rfl ?_)).trans (vi (t:=nn) ?_)))) rfl rfl
 ·exact uK (f:=84) R rfl rfl
 ·show ((yX (k:Int) (s.1.map tI).length).bind fun j=>(s.1.map tI)[j]?.map fun t=>(t,(s.1.map tI).eraseIdx j))=_
  rw [length_map,ju h]
  show ((s.1.map tI)[k]?.map fun t=>(t,(s.1.map tI).eraseIdx k))=_
  rw [getElem?_map,yt h (d:=[]),QF];rfl
 ·exact (ki rfl).trans (yA (ts:=[tbT s past,tII (s.1.eraseIdx k),int s.2]) (fun o=>[o,some (int k),none]) rfl rfl rfl (fun _=>rfl) (jS l))
end
section
variable {s:RG} {past:List RG}
theorem Yv {t:Tr} (h:¬ s.2<40):kh 85 [tbT s past,t] 2 (tbT s past):=by
 refine wk (d:=wp) (ρ:=[some (tbT s past),some t,none,none,none]) (z9 rfl rfl rfl rfl rfl) (vY (t:=bool true) (yk (x:=int s.2) rfl (y:=int 40) rfl ?_) rfl) rfl
 show some (decide _)=_
 rw [decide_eq_true (by exact Bh h)]
noncomputable abbrev P5 (s:RG) (past:List RG) (t:Tr) (o:Option Tr):VS:=[some (tbT s past),some t,o,none,none]
noncomputable abbrev AP:zk:=(.cons (.assign 2 (.compq (.bin .Add (.bi .list (.cons (.loc 3) .nil)) (.lst (.cons (.loc 4) .nil))) 3 4 (.attr (.loc 0) 0) (.loc 1))) (.cons (.expr (.mcall 80 (.loc 0) (.cons (.loc 2) (.cons (.bin .Add (.attr (.loc 0) 1) (.const (.int 1))) .nil)))) .nil))
theorem TA {t:Tr} (h:s.2<40):X 85 wp.body (P5 s past t none)=X 85 (.cons (.expr (.call 4 (.cons (.loc 1) (.cons (.bi .len (.cons (.attr (.loc 0) 0) .nil)) .nil)))) AP) (P5 s past t none):=by
 refine J0 (t:=bool false) (yk (x:=int s.2) rfl (y:=int 40) rfl ?_) rfl
 show some (decide _)=_
 rw [decide_eq_false (by exact Bg h)]
theorem Uz {ts:List Tr} {c:Nat} (h:s.2<40) (ok:ts.all okT=true) (b:zU s.1.length ts=some c):kh 85 [tbT s past,.nd .lst ts] c (tbT s past):=by
 have z:=jd (n:=s.1.length) ok
 rw [b] at z
 obtain ⟨ρc,z⟩:=z
 exact wk (d:=wp) (ρ:=P5 s past (.nd .lst ts) none) (z9 rfl rfl rfl rfl rfl) ((TA h).trans (vZ (qh (ts:=[.nd .lst ts,int s.1.length]) (es2 rfl (k0 rfl)) rfl rfl z))) rfl
theorem VB:∀ {xss:List (List Int)} {xs:List Int},uZ (xss.map tI) (xs.map int)=(xss.zip xs).map fun p=>(tI p.1,int p.2)
 | [],xs=>rfl
 | _::_,[]=>rfl
 |r::xss,x::xs=>congrArg (_::·) VB
noncomputable def v4 (rows:List (List Int)) (xs:List Int):List (List Int):=(rows.zip xs).map fun p=>p.1++[p.2]
theorem ue {xs:List Int} (R:Okr s) (h:s.2<40) (b:zU s.1.length (xs.map int)=none) (l:past.length<=1000):w6 85 [tbT s past,tI xs] nn (tbT (v4 s.1 xs,s.2+1) (past++[s])):=by
 have z:=jd (ts:=xs.map int) (n:=s.1.length) uV
 rw [b] at z
 obtain ⟨ρc,z⟩:=z
 refine Vn (d:=wp) (p:=.next) (ρ:=P5 (v4 s.1 xs,s.2+1) (past++[s]) (tI xs) (some (tII (v4 s.1 xs)))) (z9 rfl rfl rfl rfl rfl) ((TA h).trans ((vi (zF (ts:=[tI xs,int s.1.length]) (es2 rfl (k0 rfl)) rfl rfl z)).trans ((Yu (t:=tII (v4 s.1 xs)) (x_p ?_ rfl) rfl rfl).trans (vi (t:=nn) ?_)))) rfl rfl
 ·show ((yl _ (fun p=>yW (fun _=>.ok (.sc (.bool true))) (EP 85 (.bin .Add (.bi .list (.cons (.loc 3) .nil)) (.lst (.cons (.loc 4) .nil)))) (((P5 s past (tI xs) none).set 3 (some p.1)).set 4 (some p.2))) (uZ (s.1.map tI) (xs.map int))).bind mkL)=_
  rw [VB,wD (h:=fun p=>tI (p.1++[p.2])) fun p hp=>⟨?_,rfl⟩]
  ·refine (qu (by rw [length_map,length_zip];exact Nat.le_trans (min_le_left _ _) (Nat.le_trans R.h9 (by decide)))).trans ?_
   rw [v4,tII,map_map];rfl
  ·have lr:=(R.b.row p.1 (List.of_mem_zip hp).1).1
   have e:EP 85 (.bin .Add (.bi .list (.cons (.loc 3) .nil)) (.lst (.cons (.loc 4) .nil))) (((P5 s past (tI xs) none).set 3 (some (tI p.1))).set 4 (some (int p.2)))=.ok (tI (p.1++[p.2])):=by
    refine zN (j7 (ts:=p.1.map int) rfl yv (by rw [length_map,lr];(exact Bf h))) (y:=.nd .lst [int p.2]) rfl ?_
    refine (qu (by rw [length_append,length_map,lr];show s.2+1<=1000;(exact TG h))).trans ?_
    rw [tI,map_append];rfl
   show (EP 85 _ _).bind _=_
   rw [e];rfl
 ·exact (ki rfl).trans (yA (ts:=[tbT s past,tII (v4 s.1 xs),int (s.2+1:Nat)]) (fun o=>[o,some (tI xs),some (tII (v4 s.1 xs)),none,none]) rfl rfl rfl (fun _=>rfl) (jS l))
theorem X1 {t:Tr} (ok:okT t=true) (h:yc s.2 t=false):kh 86 [tbT s past,t] 7 (tbT s past):=by
 have z:=xK (s:=s) (past:=past) ok
 rw [h] at z
 obtain ⟨ρc,z⟩:=z
 exact wk (d:=uG) (ρ:=[some (tbT s past),some t,none,none]) (z9 rfl rfl rfl rfl rfl) (vZ ((ki rfl).trans (qh (ts:=[tbT s past,t]) rfl rfl rfl z))) rfl
theorem xE {k n:Nat} (h:k<n):yc n (int k)=true:=by
 show (decide (0<=(k:Int))&&decide ((k:Int)<n))=true
 rw [decide_eq_true (natCast_nonneg k),decide_eq_true (ofNat_lt.mpr h)];rfl
theorem mmN {k n:Nat}:(max 0 (min (k:Int) n)).toNat=min k n:=by
 by_cases h:k<=n
 ·rw [min_eq_left h,Int.min_eq_left (ofNat_le.mpr h),Int.max_eq_right (natCast_nonneg _),toNat_natCast]
 ·have h:=Nat.le_of_not_le h
  rw [Nat.min_eq_right h,Int.min_eq_right (ofNat_le.mpr h),Int.max_eq_right (natCast_nonneg _),toNat_natCast]
theorem WG {k d n:Nat}:KF (int k) d n=some (min k n):=by
 show some (max 0 (min (if (k:Int)<0 then (k:Int)+n else k) n)).toNat=_
 rw [if_neg (Int.not_lt.mpr (natCast_nonneg k))]
 exact congrArg some mmN
theorem Gg {α:Type} {xs:List α} {k:Nat}:xs.take (min k xs.length)=xs.take k:=by rw [<- List.take_take,take_length]
theorem ZB {f k:Nat} {ρ:VS} {o h:za} {r:List Int} (ho:EP f o ρ=.ok (tI r)) (hh:EP f h ρ=.ok (int k)) (l:r.length<=1000):EP f (.slice o .nil (.cons h .nil)) ρ=.ok (tI (r.take k)):=by
 show (EP f o ρ).bind _=_
 rw [ho]
 show (((ES f (.cons h .nil) ρ).bind fun b=>Ex.opt (W5 b)).bind _)=_
 rw [yY hh]
 show (match KF (int k) (r.map int).length (r.map int).length with | some y=>cond (wL (cls (sg f).sh o) (r.map int)) (mkL (((r.map int).take y).drop 0)) .stuck | none=>.stuck)=_
 rw [WG,yv]
 show mkL ((r.map int).take (min k (r.map int).length))=_
 rw [Gg,<- List.map_take]
 exact qu (by rw [length_map,length_take];exact Nat.le_trans (Nat.min_le_right _ _) l)
theorem ZA {f k:Nat} {ρ:VS} {o h:za} {r:List Int} (ho:EP f o ρ=.ok (tI r)) (hh:EP f h ρ=.ok (int k)) (hk:k<=r.length) (l:r.length<=1000):EP f (.slice o (.cons h .nil) .nil) ρ=.ok (tI (r.drop k)):=by
 show (EP f o ρ).bind _=_
 rw [ho]
 show (((ES f (.cons h .nil) ρ).bind fun b=>Ex.opt (W5 b)).bind _)=_
 rw [yY hh]
 show (match KF (int k) 0 (r.map int).length with | some x=>cond (wL (cls (sg f).sh o) (r.map int)) (mkL (((r.map int).take (r.map int).length).drop x)) .stuck | none=>.stuck)=_
 rw [WG,yv]
 show mkL (((r.map int).take (r.map int).length).drop (min k (r.map int).length))=_
 rw [take_length,length_map,min_eq_left hk,<- List.map_drop]
 exact qu (by rw [length_map,length_drop];exact Nat.le_trans (sub_le _ _) l)
theorem ZE {f:Nat} {ρ:VS} {a b:za} {x y:List Int} (ha:EP f a ρ=.ok (tI x)) (hb:EP f b ρ=.ok (tI y)) (l:x.length+y.length<=1000):EP f (.bin .Add a b) ρ=.ok (tI (x++y)):=by
 refine zN ha hb ?_
 show cond (wL _ (x.map int)&&wL _ (y.map int)) (mkL (x.map int++y.map int)) .stuck=_
 rw [yv,yv,<- map_append]
 exact qu (by rw [length_map,length_append];exact l)
noncomputable def kr (k:Nat) (r:List Int):List Int:=r.take k++r.drop (k+1)
theorem xM {r:List Int} {k:Nat}:(r.take k).length+(r.drop (k+1)).length<=r.length:=by
 rw [length_take,length_drop];omega
theorem WV {k:Nat} (R:Okr s) (h:k<s.2) (l:past.length<=1000):w6 86 [tbT s past,int k] nn (tbT (s.1.map (kr k),s.2-1) (past++[s])):=by
 have z:=xK (s:=s) (past:=past) (t:=int k) rfl
 rw [xE h] at z
 obtain ⟨ρc,z⟩:=z
 refine Vn (d:=uG) (p:=.next) (ρ:=[some (tbT (s.1.map (kr k),s.2-1) (past++[s])),some (int k),some (tII (s.1.map (kr k))),none]) (z9 rfl rfl rfl rfl rfl) ((vi ((ki rfl).trans (zF (ts:=[tbT s past,int k]) rfl rfl rfl z))).trans ((Yu (t:=tII (s.1.map (kr k))) (x_p ?_ rfl) rfl rfl).trans (vi (t:=nn) ?_))) rfl rfl
 ·refine (yf (y:=3) (it:=.iobj (.attr (.loc 0) 0)) (g:=tI) (h:=fun r=>tI (kr k r)) (xs:=s.1) rfl rfl (Nat.le_trans R.h9 (by decide)) fun r hr=>⟨?_,rfl⟩).trans ?_
  ·have lr:=(R.b.row r hr).1
   have l1:r.length<=1000:=by rw [lr];exact Nat.le_trans R.h40 (by decide)
   refine ZE (j7 (ts:=(r.take k).map int) (ZB rfl rfl l1) yv ?_) (j7 (ts:=(r.drop (k+1)).map int) (ZA rfl rfl (by rw [lr];exact h) l1) yv ?_) (Nat.le_trans xM l1)
   ·rw [length_map];exact Nat.le_trans (le_add_right _ _) (Nat.le_trans xM l1)
   ·rw [length_map];exact Nat.le_trans (le_add_left _ _) (Nat.le_trans xM l1)
  ·rw [tII,map_map];rfl
 ·exact (ki rfl).trans (yA (ts:=[tbT s past,tII (s.1.map (kr k)),int (s.2-1:Nat)]) (fun o=>[o,some (int k),some (tII (s.1.map (kr k))),none]) (es3 rfl rfl (by show Ex.ok (int ((s.2:Int)-1))=_;rw [Int.ofNat_sub (by exact Be h)];rfl)) rfl rfl (fun _=>rfl) (jS l))
theorem Av {t u v:Tr} (ok:okT t=true) (h:yc s.1.length t=false):kh 87 [tbT s past,t,u,v] 6 (tbT s past):=by
 have z:=jI (s:=s) (past:=past) ok
 rw [h] at z
 obtain ⟨ρc,z⟩:=z
 exact wk (d:=ve) (ρ:=[some (tbT s past),some t,some u,some v,none]) (z9 rfl rfl rfl rfl rfl) (vZ ((ki rfl).trans (qh (ts:=[tbT s past,t]) rfl rfl rfl z))) rfl
theorem Aw {k:Nat} {u v:Tr} (ok:okT u=true) (h1:k<s.1.length) (h:yc s.2 u=false):kh 87 [tbT s past,int k,u,v] 7 (tbT s past):=by
 have z1:=jI (s:=s) (past:=past) (t:=int k) rfl
 rw [xE h1] at z1
 obtain ⟨ρ1,z1⟩:=z1
 have z:=xK (s:=s) (past:=past) ok
 rw [h] at z
 obtain ⟨ρc,z⟩:=z
 exact wk (d:=ve) (ρ:=[some (tbT s past),some (int k),some u,some v,none]) (z9 rfl rfl rfl rfl rfl) ((vi ((ki rfl).trans (zF (ts:=[tbT s past,int k]) rfl rfl rfl z1))).trans (vZ ((ki rfl).trans (qh (ts:=[tbT s past,u]) rfl rfl rfl z)))) rfl
noncomputable abbrev B5 (s:RG) (past:List RG) (k j:Nat) (v:Tr) (o:Option Tr):VS:=[some (tbT s past),some (int k),some (int j),some v,o]
theorem T7 {k j:Nat} {v:Tr} (h1:k<s.1.length) (h2:j<s.2):X 87 ve.body (B5 s past k j v none)=X 87 (.cons (.expr (.call 3 (.cons (.lst (.cons (.loc 3) .nil)) .nil)))
 (.cons (.assign 4 (.mcall 89 (.loc 0) .nil))
 (.cons (.asub (.sub (.loc 4) (.loc 1)) (.loc 2) (.loc 3))
 (.cons (.expr (.mcall 80 (.loc 0) (.cons (.loc 4) (.cons (.attr (.loc 0) 1) .nil))))
 .nil)))) (B5 s past k j v none):=by
 have z1:=jI (s:=s) (past:=past) (t:=int k) rfl
 rw [xE h1] at z1
 obtain ⟨ρ1,z1⟩:=z1
 have z:=xK (s:=s) (past:=past) (t:=int j) rfl
 rw [xE h2] at z
 obtain ⟨ρc,z⟩:=z
 exact (vi ((ki rfl).trans (zF (ts:=[tbT s past,int k]) rfl rfl rfl z1))).trans (vi ((ki rfl).trans (zF (ts:=[tbT s past,int j]) rfl rfl rfl z)))
theorem Ax {k j:Nat} {v:Tr} (h1:k<s.1.length) (h2:j<s.2) (ok:okT v=true) (h:zX v=false):kh 87 [tbT s past,int k,int j,v] 4 (tbT s past):=by
 have z:=kE (ts:=[v]) (by rw [all_cons,ok];rfl)
 rw [show ([v]:List Tr).all zX=false from by rw [all_cons,h];rfl] at z
 obtain ⟨ρc,z⟩:=z
 exact wk (d:=ve) (ρ:=B5 s past k j v none) (z9 rfl rfl rfl rfl rfl) ((T7 h1 h2).trans (vZ (qh (ts:=[.nd .lst [v]]) rfl rfl rfl z))) rfl
noncomputable def XB (rows:List (List Int)) (k j:Nat) (x:Int):List (List Int):=rows.modify k fun r=>r.set j x
theorem Wm {α β:Type} {g:α->β} {h:α->α} {h':β->β}:∀ {xs:List α} {k:Nat},(∀ x,xs[k]?=some x->h' (g x)=g (h x))->(xs.map g).modify k h'=(xs.modify k h).map g
 | [],k,_=>by rw [map_nil,List.modify_nil,List.modify_nil];rfl
 |x::xs,0,e=>by rw [map_cons,List.modify_zero_cons,List.modify_zero_cons,map_cons,e x rfl]
 |x::xs,k+1,e=>by rw [map_cons,List.modify_succ_cons,List.modify_succ_cons,map_cons,Wm (xs:=xs) (k:=k) fun x h=>e x h]
theorem Tw {f x k j:Nat} {ρ:VS} {i1 i2 e:za} {r:zk} {T I t:Tr} {us:List Tr} (hx:ρ[x]?=some (some T)) (h1:EP f i1 ρ=.ok I) (hk:Qc T I=some k) (ho:yB (sg f).sh (x,[k]) ρ=some us) (h2:EP f i2 ρ=.ok (int j)) (he:EP f e ρ=.ok t) (st:zM (cls (sg f).sh e) t=true) (hj:j<us.length) :
  X f (.cons (.asub (.sub (.loc x) i1) i2 e) r) ρ=X f r (qE (x,[k]) (.nd .lst (us.set j t)) ρ):=by
 show ((((EP f e ρ).on ρ).bind fun t ρ=>(((((yx x ρ).bind fun t=>(EP f i1 ρ).bind fun y=>(Ex.opt (Qc t y)).bind fun j=>Ex.ok (x,[j])).on ρ).bind fun xq ρ=>((EP f i2 ρ).on ρ).bind fun k ρ=>VR.opt (yB (sg f).sh xq ρ) fun ts=>VR.opt (K3 (cls (sg f).sh e) ts k t) fun ts=>.ok VF.next (qE xq (.nd .lst ts) ρ)))).bind _)=_
 rw [he]
 show ((((((yx x ρ).bind fun t=>(EP f i1 ρ).bind fun y=>(Ex.opt (Qc t y)).bind fun j=>Ex.ok (x,[j])).on ρ).bind _)).bind _)=_
 rw [show yx x ρ=.ok T from qN (f:=f) hx,h1]
 show ((((((Ex.opt (Qc T I)).bind fun j=>Ex.ok (x,[j])).on ρ).bind _)).bind _)=_
 rw [hk]
 show ((((EP f i2 ρ).on ρ).bind _).bind _)=_
 rw [h2]
 show ((VR.opt (yB (sg f).sh (x,[k]) ρ) _).bind _)=_
 rw [ho]
 show ((VR.opt (cond (zM (cls (sg f).sh e) t) (if 0<=(j:Int)/\(j:Int)<us.length then some (us.set (j:Int).toNat t) else none) none) _).bind _)=_
 rw [st,if_pos ⟨natCast_nonneg j,ofNat_lt.mpr hj⟩,toNat_natCast];rfl
theorem V1 {f x k j:Nat} {ρ:VS} {i1 i2 e:za} {r:zk} {v:Int} {rows:List (List Int)} (hx:ρ[x]?=some (some (tII rows))) (hs:(sg f).sh.getD x .i=.L (.L .i)) (h1:EP f i1 ρ=.ok (int k)) (h2:EP f i2 ρ=.ok (int j)) (he:EP f e ρ=.ok (int v)) (hk:k<rows.length) (hj:j<(rows.getD k []).length) :
  X f (.cons (.asub (.sub (.loc x) i1) i2 e) r) ρ=X f r (ρ.set x (some (tII (XB rows k j v)))):=by
 have g:=yt (d:=[]) hk
 rw [Tw (k:=k) (us:=(rows.getD k []).map int) hx h1 (by show yX (k:Int) (rows.map tI).length=_;rw [length_map,ju hk]) (by
  unfold yB;rw [hs,hx]
  show ((rows.map tI)[k]?.bind (Km [])).bind Jk=_
  rw [getElem?_map,g];rfl) h2 he (Bool.or_true _) (by rw [length_map];exact hj),<- List.map_set]
 refine congrArg (X f r) ?_
 apply ext_getElem?
 intro y
 unfold qE
 by_cases q:x=y
 ·subst q
  rw [getElem?_modify_eq,hx,getElem?_set_self (List.getElem?_eq_some_iff.mp hx).1]
  show some (some (Tr.nd .lst ((rows.map tI).modify k (vV [] (tI ((rows.getD k []).set j v))))))=_
  rw [Wm (h:=fun r=>r.set j v) (fun z hz=>by rw [g] at hz;cases hz;rfl)];rfl
 ·rw [getElem?_modify_ne _ _ q,getElem?_set_ne q]
theorem ZV {k j:Nat} {x:Int} (R:Okr s) (h1:k<s.1.length) (h2:j<s.2) (h:zX (int x)=true) (l:past.length<=1000):w6 87 [tbT s past,int k,int j,int x] nn (tbT (XB s.1 k j x,s.2) (past++[s])):=by
 have z:=kE (ts:=[int x]) rfl
 rw [show ([int x]:List Tr).all zX=true from by rw [all_cons,h];rfl] at z
 obtain ⟨ρc,z⟩:=z
 refine Vn (d:=ve) (p:=.next) (ρ:=B5 (XB s.1 k j x,s.2) (past++[s]) k j (int x) none) (z9 rfl rfl rfl rfl rfl) ((T7 h1 h2).trans ((vi (zF (ts:=[.nd .lst [int x]]) rfl rfl rfl z)).trans ((Tx (f:=87) (x:=4) (t:=tII s.1) ?_ rfl).trans ((V1 (x:=4) (rows:=s.1) rfl rfl rfl rfl rfl h1 (by rw [(R.b.at h1).1];exact h2)).trans (vi (t:=nn) ?_))))) rfl rfl
 ·exact uK (f:=87) R rfl rfl
 ·exact (ki rfl).trans (yA (ts:=[tbT s past,tII (XB s.1 k j x),int s.2]) (fun o=>[o,some (int k),some (int j),some (int x),none]) rfl rfl rfl (fun _=>rfl) (jS l))
theorem Td {s':RG}:w6 88 [tbT s (past++[s'])] (bool true) (tbT s' past):=by
 refine Vn (d:=Ks) (p:=.ret (bool true)) (ρ:=[some (tbT s' past),some (prT s')]) (z9 rfl rfl rfl rfl rfl) ((J0 (t:=bool false) (yk (x_p (yE (ts:=(past++[s']).map prT) rfl (length_map _)) rfl) (y:=int 0) rfl ?_) rfl).trans ((Yu (t:=prT s') (jT (xq:=(0,[2])) (us:=(past++[s']).map prT) (w:=(prT s',past.map prT)) rfl rfl rfl (as:=[]) rfl ?_) rfl rfl).trans rfl)) rfl rfl
 ·show some ((((past++[s']).length:Nat):Int)==0)=_
  rw [length_append,beq_false_of_ne]
  exact fun e=>nomatch Int.ofNat.inj e
 ·show ((past++[s']).map prT).getLast?.map (fun t=>(t,((past++[s']).map prT).dropLast))=_
  rw [map_append]
  show (past.map prT++[prT s']).getLast?.map (fun t=>(t,(past.map prT++[prT s']).dropLast))=_
  rw [List.getLast?_concat,List.dropLast_concat];rfl
end
inductive kU where
 |come (ts:List Tr) | leave (t:Tr) | put (ts:List Tr) | take (t:Tr) | bid (t u v:Tr) | back
noncomputable abbrev sT (s:List Nat):Tr:=.sc (.str s)
noncomputable def dT:kU->Tr
 | .come ts=>.nd .lst [sT [99,111,109,101],.nd .lst ts]
 | .leave t=>.nd .lst [sT [108,101,97,118,101],t]
 | .put ts=>.nd .lst [sT [112,117,116],.nd .lst ts]
 | .take t=>.nd .lst [sT [116,97,107,101],t]
 | .bid t u v=>.nd .lst [sT [98,105,100],t,u,v]
 | .back=>.nd .lst [sT [98,97,99,107]]
noncomputable def okD:kU->Bool
 | .come ts=>ts.all okT
 | .leave t=>okT t
 | .put ts=>ts.all okT
 | .take t=>okT t
 | .bid t u v=>okT t&&okT u&&okT v
 | .back=>true
noncomputable def VM:List (Nat × Bool × Val):=[(2,false,.str [84,111,111,77,97,110,121]),(3,false,.str [85,110,101,118,101,110]),(4,false,.str [66,97,100,66,105,100]),(6,false,.str [78,111,80,101,114,115,111,110]),(7,false,.str [78,111,71,111,111,100])]
noncomputable def xx (f:Nat) (ts:List Tr) (tb:Tr):Prop:=(∃ v,w6 f ts (.sc v) tb)\/∃ c v,kh f ts c tb/\qw c VM=some v
noncomputable def y0:kU->RG->Option Nat
 | .come ts,s=>if s.1.length<9 then zU s.2 ts else some 2
 | .leave t,s=>cond (yc s.1.length t) none (some 6)
 | .put ts,s=>if s.2<40 then zU s.1.length ts else some 2
 | .take t,s=>cond (yc s.2 t) none (some 7)
 | .bid t u v,s=>cond (yc s.1.length t) (cond (yc s.2 u) (cond (zX v) none (some 4)) (some 7)) (some 6)
 | .back,_=>none
noncomputable def toI (t:Tr):Int:=km t 0 id
noncomputable def next:kU->RG->RG
 | .come ts,s=>(s.1++[ts.map toI],s.2)
 | .leave t,s=>(s.1.eraseIdx (toI t).toNat,s.2)
 | .put ts,s=>(v4 s.1 (ts.map toI),s.2+1)
 | .take t,s=>(s.1.map (kr (toI t).toNat),s.2-1)
 | .bid t u v,s=>(XB s.1 (toI t).toNat (toI u).toNat (toI v),s.2)
 | .back,s=>s
theorem kX {xs:List Int}:(xs.map int).map toI=xs:=by
 rw [map_map];exact (map_congr_left fun _ _=>rfl).trans (List.map_id' _)
noncomputable def step (d:kU) (s:RG) (past:List RG):Tr:=match y0 d s with
 |none=>tbT (next d s) (past++[s])
 |some _=>tbT s past
theorem qW {d:kU} {s:RG} {past:List RG} (h:y0 d s=none):step d s past=tbT (next d s) (past++[s]):=by unfold step;rw [h]
theorem yy {d:kU} {s:RG} {past:List RG} {c:Nat} (h:y0 d s=some c):step d s past=tbT s past:=by unfold step;rw [h]
theorem VY {n:Int} {ts:List Tr} {c:Nat} (h:zU n ts=some c):∃ v,qw c VM=some v:=by
 unfold zU at h
 by_cases e:(ts.length:Int)=n
 ·rw [if_pos e] at h
  cases q:ts.all zX with
  |true=>rw [q] at h;cases h
  |false=>rw [q] at h;cases h;exact ⟨_,rfl⟩
 ·rw [if_neg e] at h;cases h;exact ⟨_,rfl⟩
section
variable {s:RG} {past:List RG}
theorem U5 {ts:List Tr} (R:Okr s) (l:past.length<=1000) (ok:ts.all okT=true):xx 83 [tbT s past,.nd .lst ts] (step (.come ts) s past):=by
 by_cases h:s.1.length<9
 ·have e:y0 (.come ts) s=zU s.2 ts:=if_pos h
  cases q:zU s.2 ts with
  |none =>
   rw [qW (e.trans q)]
   obtain ⟨xs,rfl,_⟩:=qv (qZ q).2
   exact .inl ⟨_,by rw [next,kX];exact wW R h q l⟩
  |some c =>
   rw [yy (e.trans q)]
   obtain ⟨v,hv⟩:=VY q
   exact .inr ⟨c,v,ZM h ok q,hv⟩
 ·rw [yy (d:=.come ts) (c:=2) (if_neg h)]
  exact .inr ⟨2,_,Xv h,rfl⟩
theorem GP {ts:List Tr} (R:Okr s) (l:past.length<=1000) (ok:ts.all okT=true):xx 85 [tbT s past,.nd .lst ts] (step (.put ts) s past):=by
 by_cases h:s.2<40
 ·have e:y0 (.put ts) s=zU s.1.length ts:=if_pos h
  cases q:zU s.1.length ts with
  |none =>
   rw [qW (e.trans q)]
   obtain ⟨xs,rfl,_⟩:=qv (qZ q).2
   exact .inl ⟨_,by rw [next,kX];exact ue R h q l⟩
  |some c =>
   rw [yy (e.trans q)]
   obtain ⟨v,hv⟩:=VY q
   exact .inr ⟨c,v,Uz h ok q,hv⟩
 ·rw [yy (d:=.put ts) (c:=2) (if_neg h)]
  exact .inr ⟨2,_,Yv h,rfl⟩
theorem Zd {t:Tr} (R:Okr s) (l:past.length<=1000) (ok:okT t=true):xx 84 [tbT s past,t] (step (.leave t) s past):=by
 cases h:yc s.1.length t with
 |false =>
  rw [yy (c:=6) (by rw [y0,h];rfl)]
  exact .inr ⟨6,_,Xc ok h,rfl⟩
 |true =>
  rw [qW (by rw [y0,h];rfl)]
  obtain ⟨k,hk,rfl⟩:=jA h
  exact .inl ⟨_,Vc R hk l⟩
theorem Uc {t:Tr} (R:Okr s) (l:past.length<=1000) (ok:okT t=true):xx 86 [tbT s past,t] (step (.take t) s past):=by
 cases h:yc s.2 t with
 |false =>
  rw [yy (c:=7) (by rw [y0,h];rfl)]
  exact .inr ⟨7,_,X1 ok h,rfl⟩
 |true =>
  rw [qW (by rw [y0,h];rfl)]
  obtain ⟨k,hk,rfl⟩:=jA h
  exact .inl ⟨_,WV R hk l⟩
theorem Hb {t u v:Tr} (R:Okr s) (l:past.length<=1000) (ok:(okT t&&okT u&&okT v)=true):xx 87 [tbT s past,t,u,v] (step (.bid t u v) s past):=by
 obtain ⟨ok,o3⟩:=and_eq_true_iff.mp ok
 obtain ⟨o1,o2⟩:=and_eq_true_iff.mp ok
 cases h:yc s.1.length t with
 |false =>
  rw [yy (c:=6) (by rw [y0,h];rfl)]
  exact .inr ⟨6,_,Av o1 h,rfl⟩
 |true =>
  obtain ⟨k,hk,rfl⟩:=jA h
  cases h2:yc s.2 u with
  |false =>
   rw [yy (c:=7) (by rw [y0,h,h2];rfl)]
   exact .inr ⟨7,_,Aw o2 hk h2,rfl⟩
  |true =>
   obtain ⟨j,hj,rfl⟩:=jA h2
   cases h3:zX v with
   |false =>
    rw [yy (c:=4) (by rw [y0,h,h2,h3];rfl)]
    exact .inr ⟨4,_,Ax hk hj o3 h3,rfl⟩
   |true =>
    rw [qW (by rw [y0,h,h2,h3];rfl)]
    obtain ⟨x,rfl,_⟩:=wj h3
    exact .inl ⟨_,ZV R hk hj h3 l⟩
theorem KB {g:Nat} {args:za} {ts:List Tr} {tb tb' d:Tr} {K:VS->VR VF} (h:X 65 kO.body [some tb,some d]=(X 65 (.cons (.ret (.mcall g (.loc 0) args)) .nil) [some tb,some d]).bind fun p ρ=>match p with | .next=>K ρ | .ret t=>.ok (.ret t) ρ)
  (hi:jZ (.loc 0) [some tb,some d]=true) (hes:ES 65 (.cons (.loc 0) args) [some tb,some d]=.ok ts) (l:Nat.blt (sg g).rk (sg 65).rk=true) (ok:(okX (sg 65).sh (npO 65) (sg g).ps (qL (.cons (.loc 0) args)) ts&&!ts.isEmpty)=true) (hb:∀ ρc,back (sg 65).sh (sg g).ps (qL (.cons (.loc 0) args)) ρc [some tb,some d]=[ρc.getD 0 none,some d])
  (hr:wE sg (sg 65).sh (XC 65) (npO 65) (sg 65).rs (.mcall g (.loc 0) args) [some tb,some d]=(EX 65 (.mcall g (.loc 0) args) [some tb,some d]).bind fun t ρ=>cond (zM (cls (sg 65).sh (.mcall g (.loc 0) args)) t) (.ok t ρ) .stuck) (a:xx g ts tb'):xx 65 [tb,d] tb':=by
 have q:=z9 (f:=65) (ts:=[tb,d]) (d:=kO) rfl rfl rfl rfl rfl
 have h2:X 65 (.cons (.ret (.mcall g (.loc 0) args)) .nil) [some tb,some d]=((wE sg (sg 65).sh (XC 65) (npO 65) (sg 65).rs (.mcall g (.loc 0) args) [some tb,some d]).bind fun t ρ=>.ok (VF.ret t) ρ).bind fun p ρ=>match p with | .next=>X 65 .nil ρ | .ret t=>.ok (.ret t) ρ:=rfl
 rw [hr,ki hi] at h2
 rcases a with ⟨v,a⟩ | ⟨c,v,a,hv⟩
 ·rw [yA (fun o=>[o,some d]) hes l ok hb a] at h2
  rw [h2] at h
  exact .inl ⟨v,_,q.trans (congrArg qr h),rfl⟩
 ·rw [VE (fun o=>[o,some d]) hes l ok hb a] at h2
  rw [h2] at h
  exact .inr ⟨c,v,⟨_,q.trans (congrArg qr h),rfl⟩,hv⟩
theorem VK {tb tb' d:Tr} (a:xx 65 [tb,d] tb'):∃ v,w6 31 [tb,d] (.sc v) tb':=by
 have q:=z9 (f:=31) (ts:=[tb,d]) (d:=qS) rfl rfl rfl rfl rfl
 have h:X 31 qS.body [some tb,some d]=(Z9 VM (((EX 31 (.call 65 (.cons (.loc 0) (.cons (.loc 1) .nil))) [some tb,some d]).bind fun t ρ=>cond (zM .i t) (.ok t ρ) .stuck).bind (fun t ρ=>VR.ok (VF.ret t) ρ) |>.bind fun p ρ=>match p with | .next=>X 31 .nil ρ | .ret t=>.ok (.ret t) ρ)).bind fun p ρ=>match p with | .next=>X 31 .nil ρ | .ret t=>.ok (.ret t) ρ:=rfl
 rcases a with ⟨v,a⟩ | ⟨c,v,a,hv⟩
 ·rw [yA (ts:=[tb,d]) (fun o=>[o,some d]) rfl rfl rfl (fun _=>rfl) a] at h
  exact ⟨v,_,q.trans (congrArg qr h),rfl⟩
 ·rw [VE (ts:=[tb,d]) (fun o=>[o,some d]) rfl rfl rfl (fun _=>rfl) a] at h
  have h:X 31 qS.body [some tb,some d]=VR.bind (match qw c VM with | some v=>VR.ok (VF.ret (.sc v)) [some tb',some d] | none=>.stuck) fun p ρ=>match p with | .next=>X 31 .nil ρ | .ret t=>.ok (.ret t) ρ:=h
  rw [hv] at h
  exact ⟨v,_,q.trans (congrArg qr h),rfl⟩
theorem Ub {d:kU} (R:Okr s) (l:past.length<=1000) (ok:okD d=true) (nb:d≠.back):∃ v,w6 31 [tbT s past,dT d] (.sc v) (step d s past):=by
 refine VK ?_
 cases d with
 |come ts=>exact KB (K:=fun _=>_) rfl rfl rfl rfl rfl (fun _=>rfl) rfl (U5 R l ok)
 |leave t=>exact KB (K:=fun _=>_) rfl rfl rfl rfl rfl (fun _=>rfl) rfl (Zd R l ok)
 |put ts=>exact KB (K:=fun _=>_) rfl rfl rfl rfl rfl (fun _=>rfl) rfl (GP R l ok)
 |take t=>exact KB (K:=fun _=>_) rfl rfl rfl rfl rfl (fun _=>rfl) rfl (Uc R l ok)
 |bid t u v=>exact KB (K:=fun _=>_) rfl rfl rfl rfl rfl (fun _=>rfl) rfl (Hb R l ok)
 |back=>exact absurd rfl nb
theorem WU {s':RG}:∃ v,w6 31 [tbT s (past++[s']),dT .back] (.sc v) (tbT s' past):=by
 refine VK ?_
 have q:=z9 (f:=65) (ts:=[tbT s (past++[s']),dT .back]) (d:=kO) rfl rfl rfl rfl rfl
 have h:X 65 kO.body [some (tbT s (past++[s'])),some (dT .back)]=((((EX 65 (.mcall 88 (.loc 0) .nil) [some (tbT s (past++[s'])),some (dT .back)]).bind fun t ρ=>cond (zM .i t) (.ok t ρ) .stuck).bind (fun t ρ=>VR.ok (VF.ret t) ρ)).bind fun p ρ=>match p with | .next=>X 65 .nil ρ | .ret t=>.ok (.ret t) ρ):=rfl
 rw [(ki rfl).trans (yA (ts:=[tbT s (past++[s'])]) (fun o=>[o,some (dT .back)]) rfl rfl rfl (fun _=>rfl) Td)] at h
 exact .inl ⟨_,_,q.trans (congrArg qr h),rfl⟩
end
theorem AF {k:Int} {g:Int->Bool}:inR (int k) g=g k:=rfl
theorem Wz {t:Tr} (h:okT t=true):zL 35 [t] (bool (zX t)):=by
 obtain ⟨ρ,e⟩:=vM h
 refine yo (zS (d:=wt) rfl rfl rfl rfl rfl ?_)
 have ec:EP 35 (.call 22 (.cons (.loc 0) .nil)) [some t]=.ok (bool (qJ t)):=zy (ts:=[t]) rfl rfl rfl e
 cases en:qJ t with
 |false =>
  rw [en] at ec
  rw [show zX t=false from Je en]
  exact z8 (x_p (vD ec rfl) rfl) rfl rfl rfl
 |true =>
  rw [en] at ec
  obtain ⟨k,rfl⟩:=xG en
  refine z8 (t:=bool (zX (int k))) (x_p (zW ec rfl ?_) rfl) rfl rfl rfl
  show _=Ex.ok (bool (decide (0<=k)&&decide (k<=1000000000000)))
  by_cases z:0<=k
  ·rw [decide_eq_true z]
   exact zW (t:=bool true) (zJ (x:=int k) (y:=int 0) rfl rfl (congrArg some (decide_eq_true z))) rfl (zJ (x:=int k) rfl rfl rfl)
  ·rw [decide_eq_false z]
   exact vD (t:=bool false) (zJ (x:=int k) (y:=int 0) rfl rfl (congrArg some (decide_eq_false z))) rfl
theorem vb {t:Tr} {n:Int} (h:okT t=true):zL 62 [t,int n] (bool (yc n t)):=by
 obtain ⟨ρ,e⟩:=vM h
 refine yo (zS (d:=kN) rfl rfl rfl rfl rfl ?_)
 have ec:EP 62 (.call 22 (.cons (.loc 0) .nil)) [some t,some (int n)]=.ok (bool (qJ t)):=zy (ts:=[t]) rfl rfl rfl e
 cases en:qJ t with
 |false =>
  rw [en] at ec
  rw [show yc n t=false from Je en]
  exact z8 (x_p (vD ec rfl) rfl) rfl rfl rfl
 |true =>
  rw [en] at ec
  obtain ⟨k,rfl⟩:=xG en
  refine z8 (t:=bool (yc n (int k))) (x_p (zW ec rfl ?_) rfl) rfl rfl rfl
  show _=Ex.ok (bool (decide (0<=k)&&decide (k<n)))
  by_cases z:0<=k
  ·rw [decide_eq_true z]
   exact zW (t:=bool true) (zJ (x:=int k) (y:=int 0) rfl rfl (congrArg some (decide_eq_true z))) rfl (zJ (x:=int k) rfl rfl rfl)
  ·rw [decide_eq_false z]
   exact vD (t:=bool false) (zJ (x:=int k) (y:=int 0) rfl rfl (congrArg some (decide_eq_false z))) rfl
noncomputable def kQ:Option Nat->List Nat
 |none=>[]
 |some c=>if c=2 then [84,111,111,77,97,110,121] else if c=3 then [85,110,101,118,101,110] else if c=4 then [66,97,100,66,105,100] else if c=6 then [78,111,80,101,114,115,111,110] else [78,111,71,111,111,100]
theorem uq {ts:List Tr} {n:Int} (h:ts.all okT=true):zL 61 [.nd .lst ts,int n] (sT (kQ (zU n ts))):=by
 refine yo (zS (d:=kM) rfl rfl rfl rfl rfl ?_)
 have e1:∀ {o},EX 61 (.cmp .NotEq (.bi .len (.cons (.loc 0) .nil)) (.loc 1)) [some (.nd .lst ts),some (int n),o]=.ok (bool (!((ts.length:Int)==n))) [some (.nd .lst ts),some (int n),o]:=rfl
 unfold zU
 by_cases q:(ts.length:Int)=n
 ·rw [beq_iff_eq.mpr q] at e1
  refine zq false e1 rfl (VW.ok ?_)
  rw [if_pos q]
  refine yI (ts:=ts) rfl rfl ?_
  have key:∀ (us:List Tr) (o:Option Tr),us.all okT=true->VW (jF (fun x ρ=>X 61 (.cons (.ifs (.un .Not (.call 35 (.cons (.loc 2) .nil))) (.cons (.ret (.const (.str [66,97,100,66,105,100]))) .nil) .nil) .nil) (ρ.set 2 (some x))) us [some (.nd .lst ts),some (int n),o]) fun p ρ=>∃ o,ρ=[some (.nd .lst ts),some (int n),o]/\p=cond (us.all zX) .next (.ret (sT [66,97,100,66,105,100])):=by
   intro us
   induction us with
   |nil=>exact fun o _=>.ok ⟨o,rfl,rfl⟩
   |cons t us ih =>
    intro o hu
    obtain ⟨h1,h2⟩:=and_eq_true_iff.mp (all_cons.symm.trans hu)
    obtain ⟨ρc,c⟩:=Wz h1
    rw [all_cons]
    cases ef:zX t with
    |true =>
     rw [ef] at c
     exact VW.bind (P:=fun p ρ=>p=.next/\ρ=[some (.nd .lst ts),some (int n),some t]) (zq false (w7 (b:=true) (zF (ts:=[t]) rfl rfl rfl c) rfl) rfl (VW.ok ⟨rfl,rfl⟩)) fun p ρ z=>by
      obtain ⟨rfl,rfl⟩:=z
      exact ih _ h2
    |false =>
     rw [ef] at c
     exact VW.bind (P:=fun p ρ=>p=.ret (sT [66,97,100,66,105,100])/\ρ=[some (.nd .lst ts),some (int n),some t]) (zq true (w7 (b:=false) (zF (ts:=[t]) rfl rfl rfl c) rfl) rfl (zR (t:=sT [66,97,100,66,105,100]) rfl rfl ⟨rfl,rfl⟩)) fun p ρ z=>by
      obtain ⟨rfl,rfl⟩:=z
      exact .ok ⟨_,rfl,rfl⟩
  refine (key ts none h).mono fun p ρ z=>?_
  obtain ⟨o,rfl,rfl⟩:=z
  cases ts.all zX with
  |true=>exact zR (t:=sT []) rfl rfl rfl
  |false=>rfl
 ·rw [beq_false_of_ne q] at e1
  refine zq true e1 rfl (zR (t:=sT (kQ (some 3))) rfl rfl ?_)
  rw [if_neg q];rfl
section
variable {s:RG}
noncomputable abbrev D4 (d:kU) (s:RG) (o:Option Tr):VS:=[some (dT d),some (tII s.1),some (int s.2),o]
theorem jk {f:Nat} {ρ:VS} {e:za} (h:EP f e ρ=.ok (tII s.1)):EP f (.bi .len (.cons e .nil)) ρ=.ok (int s.1.length):=yE h (length_map _)
theorem G7 {d:kU} (R:Okr s) (ok:okD d=true):zL 39 [dT d,tII s.1,int s.2] (sT (kQ (y0 d s))):=by
 refine yo (zS (d:=QC) rfl rfl rfl rfl rfl ?_)
 cases d with
 |back=>exact VW.ok rfl
 |come ts =>
  refine yn (t:=sT [99,111,109,101]) rfl rfl rfl rfl ?_
  refine zq (t:=bool true) true rfl rfl ?_
  by_cases h:s.1.length<9
  ·obtain ⟨ρc,c⟩:=uq (n:=s.2) ok
   refine zq false (yk (x_p (jk rfl) rfl) (y:=int 9) rfl (congrArg some (beq_false_of_ne (by exact Bd h)))) rfl (VW.ok ?_)
   rw [y0,if_pos h]
   exact z8 (zF (ts:=[.nd .lst ts,int s.2]) rfl rfl rfl c) rfl rfl rfl
  ·refine zq true (yk (x_p (jk rfl) rfl) (y:=int 9) rfl (congrArg some (beq_iff_eq.mpr (by have:=R.h9;(exact Bc h this))))) rfl ?_
   rw [y0,if_neg h]
   exact zR (t:=sT (kQ (some 2))) rfl rfl rfl
 |put ts =>
  refine yn (t:=sT [112,117,116]) rfl rfl rfl rfl ?_
  refine zq (t:=bool false) false rfl rfl (VW.ok ?_)
  refine zq (t:=bool true) true rfl rfl ?_
  by_cases h:s.2<40
  ·obtain ⟨ρc,c⟩:=uq (n:=s.1.length) ok
   refine zq false (yk (x:=int s.2) rfl (y:=int 40) rfl (congrArg some (beq_false_of_ne (by exact Bb h)))) rfl (VW.ok ?_)
   rw [y0,if_pos h]
   exact z8 (zF (ts:=[.nd .lst ts,int s.1.length]) (es2 rfl (jk rfl)) rfl rfl c) rfl rfl rfl
  ·refine zq true (yk (x:=int s.2) rfl (y:=int 40) rfl (congrArg some (beq_iff_eq.mpr (by have:=R.h40;(exact Ba h this))))) rfl ?_
   rw [y0,if_neg h]
   exact zR (t:=sT (kQ (some 2))) rfl rfl rfl
 |leave t =>
  obtain ⟨ρc,c⟩:=vb (n:=s.1.length) ok
  refine yn (t:=sT [108,101,97,118,101]) rfl rfl rfl rfl ?_
  refine zq (t:=bool false) false rfl rfl (VW.ok ?_)
  refine zq (t:=bool false) false rfl rfl (VW.ok ?_)
  rw [y0]
  cases h:yc s.1.length t with
  |true =>
   rw [h] at c
   refine zq false (x_p (zW (t:=bool true) rfl rfl (ji (b:=true) (zy (ts:=[t,int s.1.length]) (es2 rfl (jk rfl)) rfl rfl c) rfl)) rfl) rfl (VW.ok ?_)
   exact VW.ok rfl
  |false =>
   rw [h] at c
   refine zq true (x_p (zW (t:=bool true) rfl rfl (ji (b:=false) (zy (ts:=[t,int s.1.length]) (es2 rfl (jk rfl)) rfl rfl c) rfl)) rfl) rfl ?_
   exact zR (t:=sT (kQ (some 6))) rfl rfl rfl
 |take t =>
  obtain ⟨ρc,c⟩:=vb (n:=s.2) ok
  refine yn (t:=sT [116,97,107,101]) rfl rfl rfl rfl ?_
  refine zq (t:=bool false) false rfl rfl (VW.ok ?_)
  refine zq (t:=bool false) false rfl rfl (VW.ok ?_)
  refine zq (t:=bool false) false rfl rfl (VW.ok ?_)
  rw [y0]
  cases h:yc s.2 t with
  |true =>
   rw [h] at c
   refine zq false (x_p (zW (t:=bool true) rfl rfl (ji (b:=true) (zy (ts:=[t,int s.2]) rfl rfl rfl c) rfl)) rfl) rfl (VW.ok ?_)
   exact VW.ok rfl
  |false =>
   rw [h] at c
   refine zq true (x_p (zW (t:=bool true) rfl rfl (ji (b:=false) (zy (ts:=[t,int s.2]) rfl rfl rfl c) rfl)) rfl) rfl ?_
   exact zR (t:=sT (kQ (some 7))) rfl rfl rfl
 |bid t u v =>
  obtain ⟨ok,o3⟩:=and_eq_true_iff.mp ok
  obtain ⟨o1,o2⟩:=and_eq_true_iff.mp ok
  obtain ⟨ρ1,c1⟩:=vb (n:=s.1.length) o1
  obtain ⟨ρ2,c2⟩:=vb (n:=s.2) o2
  obtain ⟨ρ3,c3⟩:=Wz o3
  refine yn (t:=sT [98,105,100]) rfl rfl rfl rfl ?_
  refine zq (t:=bool false) false rfl rfl (VW.ok ?_)
  refine zq (t:=bool false) false rfl rfl (VW.ok ?_)
  rw [y0]
  cases h:yc s.1.length t with
  |false =>
   rw [h] at c1
   refine zq true (x_p (zW (t:=bool true) rfl rfl (ji (b:=false) (zy (ts:=[t,int s.1.length]) (es2 rfl (jk rfl)) rfl rfl c1) rfl)) rfl) rfl ?_
   exact zR (t:=sT (kQ (some 6))) rfl rfl rfl
  |true =>
   rw [h] at c1
   refine zq false (x_p (zW (t:=bool true) rfl rfl (ji (b:=true) (zy (ts:=[t,int s.1.length]) (es2 rfl (jk rfl)) rfl rfl c1) rfl)) rfl) rfl (VW.ok ?_)
   refine zq (t:=bool false) false rfl rfl (VW.ok ?_)
   cases h2:yc s.2 u with
   |false =>
    rw [h2] at c2
    refine zq true (x_p (zW (t:=bool true) rfl rfl (ji (b:=false) (zy (ts:=[u,int s.2]) rfl rfl rfl c2) rfl)) rfl) rfl ?_
    exact zR (t:=sT (kQ (some 7))) rfl rfl rfl
   |true =>
    rw [h2] at c2
    refine zq false (x_p (zW (t:=bool true) rfl rfl (ji (b:=true) (zy (ts:=[u,int s.2]) rfl rfl rfl c2) rfl)) rfl) rfl (VW.ok ?_)
    cases h3:zX v with
    |false =>
     rw [h3] at c3
     refine zq true (x_p (zW (t:=bool true) rfl rfl (ji (b:=false) (zy (ts:=[v]) rfl rfl rfl c3) rfl)) rfl) rfl ?_
     exact zR (t:=sT (kQ (some 4))) rfl rfl rfl
    |true =>
     rw [h3] at c3
     refine zq false (x_p (zW (t:=bool true) rfl rfl (ji (b:=true) (zy (ts:=[v]) rfl rfl rfl c3) rfl)) rfl) rfl (VW.ok ?_)
     exact zR (t:=sT []) rfl rfl rfl
end
theorem Qf {α:Type} {s:Sh} {f:Tr->Ex (Option Tr)} {g h:α->Tr} {b:α->Bool}:∀ {xs:List α},(∀ x∈xs,f (g x)=.ok (cond (b x) (some (h x)) none)/\zM s (h x)=true)->yl s f (xs.map g)=.ok ((xs.filter b).map h)
 | [],_=>rfl
 |x::xs,k=>by
  obtain ⟨e1,e2⟩:=k x (.head _)
  have ih:=Qf fun y hy=>k y (.tail _ hy)
  show (f (g x)).bind _=_
  rw [e1,filter_cons]
  cases b x with
  |true =>
   show cond (zM s (h x)) ((yl s f (xs.map g)).bind _) _=_
   rw [e2,ih];rfl
  |false=>exact ih
theorem Zo {α:Type} {xs:List α} {d:α}:(List.range xs.length).map (fun i=>xs.getD i d)=xs:=by
 refine ext_getElem? fun i=>?_
 rw [getElem?_map]
 by_cases q:i<xs.length
 ·rw [getElem?_range q];exact (yt q).symm
 ·have l:=le_of_not_lt q
  rw [getElem?_eq_none l,getElem?_eq_none (by rw [length_range];exact l)];rfl
theorem WO {α β:Type} [BEq α] [LawfulBEq α] [BEq β] [LawfulBEq β] {g:α->β} {x y:α} (h:g x=g y->x=y):(g x==g y)=(x==y):=by
 by_cases z:x=y
 ·rw [z,beq_self_eq_true,beq_self_eq_true]
 ·rw [beq_false_of_ne z,beq_false_of_ne fun e=>z (h e)]
theorem QE {α:Type} {d:α}:∀ {xs:List α} {k:Nat},k<xs.length->xs.eraseIdx k=((List.range xs.length).filter fun i=>!(i==k)).map fun i=>xs.getD i d
 |x::xs,0,_=>by
  rw [length_cons,range_succ_eq_map,filter_cons,List.filter_map]
  show xs=(((List.range xs.length).filter fun _=>true).map Nat.succ).map fun i=>(x::xs).getD i d
  rw [List.filter_eq_self.mpr fun _ _=>rfl,map_map]
  exact Zo.symm
 |x::xs,k+1,h=>by
  rw [List.eraseIdx_cons_succ,QE (d:=d) (Nat.lt_of_succ_lt_succ h),length_cons,range_succ_eq_map,filter_cons,List.filter_map]
  show _=x::(((List.range xs.length).filter fun i=>!(i+1==k+1)).map Nat.succ).map fun i=>(x::xs).getD i d
  rw [map_map,show (fun i:Nat=>!(i+1==k+1))=fun i=>!(i==k) from funext fun i=>congrArg _ (WO Nat.succ.inj)];rfl
theorem Z8 {rows:List (List Int)} {xs:List Int} (e:xs.length=rows.length):v4 rows xs=(List.range rows.length).map fun i=>rows.getD i []++[xs.getD i 0]:=by
 unfold v4
 refine ext_getElem? fun i=>?_
 rw [getElem?_map,getElem?_map]
 by_cases q:i<rows.length
 ·rw [getElem?_range q,show (rows.zip xs)[i]?=some (rows.getD i [],xs.getD i 0) from by rw [List.getElem?_zip_eq_some];exact ⟨yt q,yt (by rw [e];exact q)⟩];rfl
 ·have l:=le_of_not_lt q
  rw [getElem?_eq_none (by rw [length_zip,e,Nat.min_self];exact l),getElem?_eq_none (by rw [length_range];exact l)];rfl
section
variable {s:RG}
theorem XD {d:kU} (R:Okr s) (h:y0 d s=none) (nb:d≠.back):zL 64 [dT d,tII s.1] (tII (next d s).1):=by
 have h9:s.1.length<=1000:=Nat.le_trans R.h9 (by decide)
 have lr:∀ r∈s.1,r.length<=1000:=fun r hr=>by rw [(R.b.row r hr).1];exact Nat.le_trans R.h40 (by decide)
 refine yo (zS (d:=wo) rfl rfl rfl rfl rfl ?_)
 cases d with
 |back=>exact absurd rfl nb
 |come ts =>
  have h:(if s.1.length<9 then zU s.2 ts else some 2)=none:=h
  by_cases q:s.1.length<9
  ·rw [if_pos q] at h
   obtain ⟨l,f⟩:=qZ h
   obtain ⟨xs,rfl,_⟩:=qv f
   refine yn (t:=sT [99,111,109,101]) rfl rfl rfl rfl ?_
   refine zq (t:=bool true) true rfl rfl ?_
   refine z8 (Qe (zN (x:=tII s.1) rfl (y:=.nd .lst [tI xs]) ?_ ?_) rfl) rfl rfl (show tII (s.1++[xs])=tII (s.1++[(xs.map int).map toI]) by rw [kX])
   ·show (ES 64 (.cons (.bi .list (.cons (.sub (.loc 0) (.const (.int 1))) .nil)) .nil) _).bind mkL=_
    rw [yY (j7 (ts:=xs.map int) rfl yv (by rw [l];exact Nat.le_trans R.h40 (by decide)))];rfl
   ·refine (qu (by rw [length_append,length_map];show s.1.length+1<=1000;(exact H9 q))).trans ?_
    rw [tII,map_append];rfl
  ·rw [if_neg q] at h;cases h
 |leave t =>
  have h:cond (yc s.1.length t) none (some 6)=none:=h
  cases q:yc s.1.length t with
  |false=>rw [q] at h;cases h
  |true =>
   obtain ⟨k,hk,rfl⟩:=jA q
   refine yn (t:=sT [108,101,97,118,101]) rfl rfl rfl rfl ?_
   refine zq (t:=bool false) false rfl rfl (VW.ok ?_)
   refine zq (t:=bool true) true rfl rfl ?_
   refine z8 (t:=tII (s.1.eraseIdx k)) (x_p ?_ rfl) rfl rfl rfl
   show (EI 64 (.irange (.bi .len (.cons (.loc 1) .nil))) _).bind _=_
   rw [uw (ts:=s.1.map tI) rfl (length_map _) h9]
   show (yl _ (fun x=>yW (EP 64 (.cmp .NotEq (.loc 4) (.sub (.loc 0) (.const (.int 1))))) (EP 64 (.sub (.loc 1) (.loc 4))) (List.set _ 4 (some x))) ((List.range s.1.length).map fun k:Nat=>int k)).bind mkL=_
   rw [Qf (h:=fun i=>tI (s.1.getD i [])) (b:=fun i=>!(i==k)) fun i hi=>⟨?_,rfl⟩,tII,QE (d:=[]) hk,map_map]
   ·exact qu (by rw [length_map];exact Nat.le_trans (List.length_filter_le _ _) (by rw [length_range];exact h9))
   ·have hi:=mem_range.mp hi
    have e:EP 64 (.sub (.loc 1) (.loc 4)) [some (dT (.leave (int k))),some (tII s.1),some (sT [108,101,97,118,101]),none,some (int i),none,none,none]=.ok (tI (s.1.getD i [])):=Jx (g:=tI) (xs:=s.1) (k:=i) (d:=[]) rfl rfl hi
    have e2:((i:Int)==(k:Int))=(i==k):=WO (g:=fun n:Nat=>(n:Int)) Int.ofNat.inj
    show (if (!((i:Int)==(k:Int)))=true then (EP 64 (.sub (.loc 1) (.loc 4)) [some (dT (.leave (int k))),some (tII s.1),some (sT [108,101,97,118,101]),none,some (int i),none,none,none]).bind fun r=>.ok (some r) else .ok none)=_
    rw [e,e2]
    cases (!(i==k)) <;> rfl
 |put ts =>
  have h:(if s.2<40 then zU s.1.length ts else some 2)=none:=h
  by_cases q:s.2<40
  ·rw [if_pos q] at h
   obtain ⟨l,f⟩:=qZ h
   obtain ⟨xs,rfl,_⟩:=qv f
   rw [length_map] at l
   refine yn (t:=sT [112,117,116]) rfl rfl rfl rfl ?_
   refine zq (t:=bool false) false rfl rfl (VW.ok ?_)
   refine zq (t:=bool false) false rfl rfl (VW.ok ?_)
   refine zq (t:=bool true) true rfl rfl ?_
   refine z8 (x_p (yf (y:=5) (g:=fun i:Nat=>int i) (h:=fun i=>tI (s.1.getD i []++[xs.getD i 0])) (xs:=List.range s.1.length) (uw (ts:=s.1.map tI) rfl (length_map _) h9) rfl (by rw [length_range];exact h9) fun i hi=>⟨?_,rfl⟩) rfl) rfl rfl ?_
   ·have hi:=mem_range.mp hi
    refine ZE (Jx (g:=tI) (xs:=s.1) (k:=i) (d:=[]) rfl rfl hi) (y:=[xs.getD i 0]) ?_ ?_
    ·show (ES 64 (.cons (.sub (.sub (.loc 0) (.const (.int 1))) (.loc 5)) .nil) _).bind mkL=_
     rw [yY (Jx (g:=int) (xs:=xs) (k:=i) (d:=0) rfl rfl (by rw [l];exact hi))];rfl
    ·rw [(R.b.at hi).1];show s.2+1<=1000;(exact TG q)
   ·show _=tII (v4 s.1 ((xs.map int).map toI))
    rw [kX,Z8 l,tII,map_map];rfl
  ·rw [if_neg q] at h;cases h
 |take t =>
  have h:cond (yc s.2 t) none (some 7)=none:=h
  cases q:yc s.2 t with
  |false=>rw [q] at h;cases h
  |true =>
   obtain ⟨k,hk,rfl⟩:=jA q
   refine yn (t:=sT [116,97,107,101]) rfl rfl rfl rfl ?_
   refine zq (t:=bool false) false rfl rfl (VW.ok ?_)
   refine zq (t:=bool false) false rfl rfl (VW.ok ?_)
   refine zq (t:=bool false) false rfl rfl (VW.ok ?_)
   refine zq (t:=bool true) true rfl rfl ?_
   refine z8 (x_p (yf (y:=6) (it:=.iobj (.loc 1)) (g:=tI) (h:=fun r=>tI (kr k r)) (xs:=s.1) rfl rfl h9 fun r hr=>⟨?_,rfl⟩) rfl) rfl rfl ?_
   ·exact ZE (ZB rfl rfl (lr r hr)) (ZA rfl rfl (by rw [(R.b.row r hr).1];exact hk) (lr r hr)) (Nat.le_trans xM (lr r hr))
   ·show _=tII (s.1.map (kr k))
    rw [tII,map_map];rfl
 |bid t u v =>
  have h:cond (yc s.1.length t) (cond (yc s.2 u) (cond (zX v) none (some 4)) (some 7)) (some 6)=none:=h
  cases q:yc s.1.length t with
  |false=>rw [q] at h;cases h
  |true=>cases q2:yc s.2 u with
   |false=>rw [q,q2] at h;cases h
   |true=>cases q3:zX v with
    |false=>rw [q,q2,q3] at h;cases h
    |true =>
     obtain ⟨k,hk,rfl⟩:=jA q
     obtain ⟨j,hj,rfl⟩:=jA q2
     obtain ⟨x,rfl,_⟩:=wj q3
     refine yn (t:=sT [98,105,100]) rfl rfl rfl rfl ?_
     refine zq (t:=bool false) false rfl rfl (VW.ok ?_)
     refine zq (t:=bool false) false rfl rfl (VW.ok ?_)
     refine zq (t:=bool false) false rfl rfl (VW.ok ?_)
     refine zq (t:=bool false) false rfl rfl (VW.ok ?_)
     refine jE (x:=3) (t:=tII s.1) ?_ rfl ?_
     ·exact yf (f:=64) (y:=7) (it:=.iobj (.loc 1)) (elt:=.bi .list (.cons (.loc 7) .nil)) (g:=tI) (h:=tI) (xs:=s.1) rfl rfl h9 fun r hr=>⟨j7 (ts:=r.map int) rfl yv (by rw [length_map];exact lr r hr),rfl⟩
     ·show VW (X 64 (.cons (.asub _ _ _) _) _) _
      rw [V1 (x:=3) (k:=k) (j:=j) (v:=x) (rows:=s.1) rfl rfl rfl rfl rfl hk (by rw [(R.b.at hk).1];exact hj)]
      exact zR (t:=tII (XB s.1 k j x)) rfl rfl rfl
end
theorem UK {a b:Int} (h:b.natAbs<9223372036854775808):xa a b=true:=by
 unfold xa;rw [decide_eq_true h,Bool.or_true]
theorem Zy {f:Nat} {ρ:VS} {e:za} {x c:Int} (h:EP f e ρ=.ok (int x)) (hc:c.natAbs<9223372036854775808):EP f (.bin .Mult e (.const (.int c))) ρ=.ok (int (x*c)):=zN h (y:=int c) rfl (if_pos (UK hc))
theorem Gi {xs:List Int} {x:Int}:Tr.nd .lst (xs.map int++[int x])=tI (xs++[x]):=by rw [tI,map_append];rfl
theorem ZG {c:Int}:∃ ds:List Int,ds.length=46/\zL 24 [int c,int 46] (tI ds):=by
 have w:VW (vc 24 [int c,int 46]) fun r _=>∃ ds:List Int,ds.length=46/\r=tI ds:=by
  refine zS (d:=xm) rfl rfl rfl rfl rfl ?_
  refine jE (t:=tI []) rfl rfl ?_
  refine yI (Jq (x:=int 46) rfl (jV (n:=46) (by decide))) rfl ?_
  refine qm _ (fun k ρ=>∃ c ds o,ρ=[some (int c),some (int 46),some (tI ds),o]/\ds.length=k) (fun k ρ hk z=>?_) (fun ρ z=>?_) ⟨c,[],none,rfl,rfl⟩
  ·obtain ⟨c,ds,o,rfl,hl⟩:=z
   refine yn (t:=int ((c*48271+12345)%2147483647)) (zN (y:=int 2147483647) (zN (y:=int 12345) (Zy (x:=c) rfl (by decide)) rfl rfl) rfl rfl) rfl rfl rfl ?_
   refine yU (jT (xq:=(2,[])) (us:=ds.map int) rfl rfl rfl (as:=[int ((c*48271+12345)%2147483647 / 16)]) rfl (xH rfl (by rw [length_map,hl];(exact H8 hk)))) ?_
   exact ⟨(c*48271+12345)%2147483647,ds++[(c*48271+12345)%2147483647 / 16],some (int k),by rw [<- Gi];rfl,by rw [length_append,hl];rfl⟩
  ·obtain ⟨c,ds,o,rfl,hl⟩:=z
   exact zR (t:=tI ds) rfl rfl ⟨ds,hl,rfl⟩
 obtain ⟨r,ρ,e,ds,hl,rfl⟩:=w.get
 exact ⟨ds,hl,ρ,e⟩
theorem gex {f:Nat} {ts:List Tr} {P:Tr->Prop} (w:VW (vc f ts) fun r _=>P r):∃ t,P t/\zL f ts t:=let ⟨r,ρ,e,h⟩:=w.get;⟨r,h,ρ,e⟩
theorem Vt {c k:Int}:∃ x,zL 25 [int c,int k] (int x):=by
 obtain ⟨t,⟨x,rfl⟩,h⟩:=gex (P:=fun t=>∃ x,t=int x) (f:=25) (ts:=[int c,int k]) (by
  refine zS (d:=QD) rfl rfl rfl rfl rfl ?_
  refine zq (k==0) rfl rfl ?_
  cases k==0 with
  |true=>exact zR (t:=int (c%3)) rfl rfl ⟨_,rfl⟩
  |false =>
   refine .ok (zq (k==1) rfl rfl ?_)
   cases k==1 with
   |true=>exact zR (t:=int (c%100)) rfl rfl ⟨_,rfl⟩
   |false =>
    refine .ok (zq (k==2) rfl rfl ?_)
    cases k==2 with
    |true=>exact zR (t:=int (c%1000000000001)) rfl rfl ⟨_,rfl⟩
    |false =>
     refine .ok (z8 (Qe (zN (x:=int 1000000000000) rfl (zN (x:=int (c%3)) rfl (zN (Zy (x:=c / 3%2) rfl (by decide)) (y:=int 1) rfl rfl) (if_pos ?_)) rfl) rfl) rfl rfl ⟨_,rfl⟩)
     rw [xa,or_eq_true_iff,decide_eq_true_iff]
     exact .inl (by have:=emod_nonneg c (b:=3) (by decide);have:=emod_lt_of_pos c (b:=3) (by decide);omega))
 exact ⟨x,h⟩
theorem HG {ts:List Tr} {c:Int} (n:Nat) (l:ts.length=n) (h:0<n):∃ t,vz (.nd .lst ts) (int (c%n))=some t/\t∈ts:=by
 obtain ⟨k,hk⟩:=eq_ofNat_of_zero_le (emod_nonneg c (b:=n) (by exact YL h))
 have lt:k<ts.length:=by
  have:=emod_lt_of_pos c (b:=n) (by exact YW h)
  (exact H7 l hk this)
 refine ⟨ts[k],?_,getElem_mem lt⟩
 rw [hk]
 show ((yX (k:Int) ts.length).bind fun j=>ts[j]?)=_
 rw [ju lt];exact getElem?_eq_getElem lt
theorem JJ {c:Int}:∃ t,okT t=true/\zL 58 [int c] t:=by
 refine gex (zS (d:=xg) rfl rfl rfl rfl rfl ?_)
 obtain ⟨t,e,m⟩:=HG (ts:=[int (-1),int 1000000000001,bool true,bool false,sT [49],nn,.nd .lst [int 1],.nd .tup [int 1]]) (c:=c) 8 rfl (by decide)
 refine z8 (x_p (zB (y:=int (c%8)) rfl rfl e) rfl) rfl rfl ?_
 exact all_eq_true.mp (show ([int (-1),int 1000000000001,bool true,bool false,sT [49],nn,.nd .lst [int 1],.nd .tup [int 1]]:List Tr).all okT=true from rfl) t m
theorem jt {c:Int} {n:Nat}:∃ t,okT t=true/\zL 60 [int c,int n] t:=by
 refine gex (zS (d:=xk) rfl rfl rfl rfl rfl ?_)
 refine zq (c%9==0) rfl rfl ?_
 cases c%9==0 with
 |true =>
  obtain ⟨t,e,m⟩:=HG (ts:=[int n,int (-1),bool true,bool false,nn,sT [48],.nd .lst [int 0],.nd .tup [int 0],int ((n:Int)+1+c / 81%1000)]) (c:=c / 9) 9 rfl (by decide)
  refine z8 (x_p (zB (y:=int (c / 9%9)) rfl rfl e) rfl) rfl rfl ?_
  exact all_eq_true.mp (show ([int n,int (-1),bool true,bool false,nn,sT [48],.nd .lst [int 0],.nd .tup [int 0],int ((n:Int)+1+c / 81%1000)]:List Tr).all okT=true from rfl) t m
 |false =>
  refine .ok (z8 (Qe (zN (x:=int (c / 9)) rfl (T3 (x:=1) (y:=n) rfl rfl) (if_pos ?_)) rfl) rfl rfl rfl)
  unfold vk
  by_cases h:(n:Int)>1
  ·rw [if_pos h];(exact H6 h)
  ·rw [if_neg h];decide
theorem wS {f:Nat} {ρ:VS} {a b:za} {x y:Bool} (ha:EP f a ρ=.ok (bool x)) (hb:EP f b ρ=.ok (bool y)):EP f (.and a b) ρ=.ok (bool (x&&y)):=by
 cases x with
 |true=>exact zW ha rfl hb
 |false=>exact vD ha rfl
theorem An {f:Nat} {ρ:VS} {a b:za} {x y:Bool} (ha:EP f a ρ=.ok (bool x)) (hb:EP f b ρ=.ok (bool y)):EP f (.or a b) ρ=.ok (bool (x||y)):=by
 cases x with
 |true=>exact Ky ha rfl
 |false=>exact jO ha rfl hb
theorem Ge {f x k:Nat} {i e:za} {r:zk} {ρ:VS} {t:Tr} {ts:List Tr} {P:VF->VS->Prop} (he:EP f e ρ=.ok t) (hx:ρ[x]?=some (some (.nd .lst ts))) (hi:EP f i ρ=.ok (int k)) (hk:k<ts.length)
  (lf:((sg f).sh.getD x .i).leaf []=true) (st:zM (cls (sg f).sh e) t=true) (q:Nr f r P (ρ.set x (some (.nd .lst (ts.set k t))))):VW (X f (.cons (.asub (.loc x) i e) r) ρ) P:=by
 refine yJ ?_
 show VW (((EP f e ρ).on ρ).bind _) _
 rw [he]
 show VW ((((yx x ρ).bind fun _=>.ok (x,[])).on ρ).bind _) _
 rw [show yx x ρ=.ok (.nd .lst ts) from qN (f:=f) hx]
 show VW (((EP f i ρ).on ρ).bind _) _
 rw [hi]
 show VW (VR.opt (yB (sg f).sh (x,[]) ρ) _) _
 rw [show yB (sg f).sh (x,[]) ρ=some ts from by unfold yB;rw [lf,hx];rfl]
 show VW (VR.opt (cond (zM (cls (sg f).sh e) t) (if 0<=(k:Int)/\(k:Int)<ts.length then some (ts.set (k:Int).toNat t) else none) none) _) _
 rw [st,if_pos ⟨natCast_nonneg k,ofNat_lt.mpr hk⟩,toNat_natCast]
 refine VW.ok ?_
 show Nr f r P (ρ.modify x (Option.map (vV [] (.nd .lst (ts.set k t)))))
 rw [Jh hx];exact q
section
variable {ds:List Int} {n:Nat} {k:Int}
theorem xA {f x:Nat} {ρ:VS} {j:Nat} (h:ρ[x]?=some (some (tI ds))) (hl:ds.length=46) (hj:j<46):EP f (.sub (.loc x) (.const (.int j))) ρ=.ok (int (ds.getD j 0)):=Jx (g:=int) (xs:=ds) (k:=j) (d:=0) (qN h) rfl (by rw [hl];exact hj)
noncomputable abbrev L5 (ds:List Int) (n:Nat) (k:Int) (ts:List Tr):VS:=[some (tI ds),some (int n),some (int k),some (.nd .lst ts),none]
structure Ln (n:Nat) (ts:List Tr):Prop where
 ok:ts.all okT=true
 lo:n<=ts.length
 hi:ts.length<=n+1
theorem Wl {c:Int} {n:Nat} (h:0<n):∃ j:Nat,c%(n:Int)=j/\j<n:=by
 obtain ⟨j,hj⟩:=eq_ofNat_of_zero_le (emod_nonneg c (b:=n) (by exact YL h))
 exact ⟨j,hj,by have:=emod_lt_of_pos c (b:=n) (by exact YW h);(exact H4 hj this)⟩
theorem gt0:decide ((n:Int)>0)=decide (0<n):=decide_eq_decide.mpr ofNat_lt
theorem Wp (hl:ds.length=46) (hn:n<=40):∃ ts,ts.all okT=true/\zL 59 [tI ds,int n,int k] (.nd .lst ts):=by
 have w:VW (vc 59 [tI ds,int n,int k]) fun r _=>∃ ts,r=.nd .lst ts/\ts.all okT=true:=by
  refine zS (d:=uz) rfl rfl rfl rfl rfl ?_
  have e12:∀ ts,EP 59 (.bin .Mod (.sub (.loc 0) (.const (.int 41))) (.const (.int 12))) (L5 ds n k ts)=.ok (int (ds.getD 41 0%12)):=fun ts=>zN (xA rfl hl (by decide)) (y:=int 12) rfl rfl
  have bids:∃ g:Nat->Int,∀ j,j<n->zL 25 [int (ds.getD j 0),int k] (int (g j)):=⟨fun j=>(Vt (c:=ds.getD j 0) (k:=k)).choose,fun j _=>(Vt (c:=ds.getD j 0) (k:=k)).choose_spec⟩
  obtain ⟨g,hg⟩:=bids
  refine jE (x:=3) (t:=.nd .lst ((List.range n).map fun j=>int (g j))) (yf (f:=59) (y:=4) (it:=.irange (.loc 1)) (ρ:=[some (tI ds),some (int n),some (int k),none,none]) (elt:=.call 25 (.cons (.sub (.loc 0) (.loc 4)) (.cons (.loc 2) .nil))) (g:=fun j:Nat=>int j) (xs:=List.range n) (Jq (x:=int n) rfl (jV (by exact TF hn))) rfl (by rw [length_range];(exact TF hn)) fun j hj=>?_) rfl ?_
  ·have hj:=mem_range.mp hj
   obtain ⟨ρc,c⟩:=hg j hj
   exact ⟨zy (ts:=[int (ds.getD j 0),int k]) (es2 (Jx (g:=int) (xs:=ds) (k:=j) (d:=0) rfl rfl (by rw [hl];(exact H3 hn hj))) rfl) rfl rfl c,rfl⟩
  have L0:Ln n ((List.range n).map fun j=>int (g j)):=⟨by rw [all_map];exact all_eq_true.mpr fun _ _=>rfl,by rw [length_map,length_range];(first | exact DJ | omega),by rw [length_map,length_range];(first | exact DY | omega)⟩
  have fin:∀ ts,Ln n ts->VW (X 59 (.cons (.ifs (.and (.cmp .Eq (.bin .Mod (.sub (.loc 0) (.const (.int 41))) (.const (.int 12))) (.const (.int 3))) (.cmp .Gt (.loc 1) (.const (.int 0)))) (.cons (.expr (.meth .pop (.loc 3) .nil)) .nil) .nil) (.cons (.ret (.loc 3)) .nil)) (L5 ds n k ts)) (Rt fun r _=>∃ ts,r=.nd .lst ts/\ts.all okT=true):=fun ts L=>by
   refine zq (ds.getD 41 0%12==3&&decide ((n:Int)>0)) (x_p (wS (zJ (e12 ts) (y:=int 3) rfl rfl) (zJ (x:=int n) (y:=int 0) rfl rfl rfl)) rfl) rfl ?_
   rw [gt0]
   by_cases h:0<n
   ·rw [decide_eq_true h,Bool.and_true]
    cases ds.getD 41 0%12==3 with
    |false=>exact .ok (zR (t:=.nd .lst ts) rfl rfl ⟨ts,rfl,L.ok⟩)
    |true =>
     have ne:ts ≠ []:=fun e=>by have:=L.lo;rw [e] at this;exact absurd h (Nat.not_lt.mpr this)
     refine yU (jT (xq:=(3,[])) (us:=ts) rfl rfl rfl (as:=[]) (w:=(ts.getLast ne,ts.dropLast)) rfl ?_) ?_
     ·show ts.getLast?.map (fun t=>(t,ts.dropLast))=_
      rw [List.getLast?_eq_some_getLast ne];rfl
     ·exact zR (t:=.nd .lst ts.dropLast) rfl rfl ⟨_,rfl,all_eq_true.mpr fun t ht=>all_eq_true.mp L.ok t ((List.dropLast_sublist ts).subset ht)⟩
   ·rw [decide_eq_false h,Bool.and_false]
    exact .ok (zR (t:=.nd .lst ts) rfl rfl ⟨ts,rfl,L.ok⟩)
  have mid:∀ ts,Ln n ts->ts.length=n->VW (X 59 (.cons (.ifs (.or (.cmp .Eq (.bin .Mod (.sub (.loc 0) (.const (.int 41))) (.const (.int 12))) (.const (.int 2))) (.cmp .Eq (.bin .Mod (.sub (.loc 0) (.const (.int 41))) (.const (.int 12))) (.const (.int 5)))) (.cons (.expr (.meth .insert (.loc 3) (.cons (.bin .Mod (.sub (.loc 0) (.const (.int 42))) (.bin .Add (.loc 1) (.const (.int 1)))) (.cons (.const (.int 1)) .nil)))) .nil) .nil) (.cons (.ifs (.and (.cmp .Eq (.bin .Mod (.sub (.loc 0) (.const (.int 41))) (.const (.int 12))) (.const (.int 3))) (.cmp .Gt (.loc 1) (.const (.int 0)))) (.cons (.expr (.meth .pop (.loc 3) .nil)) .nil) .nil) (.cons (.ret (.loc 3)) .nil))) (L5 ds n k ts)) (Rt fun r _=>∃ ts,r=.nd .lst ts/\ts.all okT=true):=fun ts L e=>by
   refine zq (ds.getD 41 0%12==2||ds.getD 41 0%12==5) (x_p (An (zJ (e12 ts) (y:=int 2) rfl rfl) (zJ (e12 ts) (y:=int 5) rfl rfl)) rfl) rfl ?_
   cases ds.getD 41 0%12==2||ds.getD 41 0%12==5 with
   |false=>exact .ok (fin ts L)
   |true =>
    obtain ⟨j,ej,hj⟩:=Wl (c:=ds.getD 42 0) (n:=n+1) (succ_pos n)
    refine yU (jT (xq:=(3,[])) (us:=ts) rfl rfl rfl (as:=[int j,int 1]) (w:=(nn,ts.take j++int 1::ts.drop j)) (es2 (zN (xA (j:=42) rfl hl (by decide)) (y:=int (n+1:Nat)) rfl ((if_pos (ofNat_lt.mpr (succ_pos n))).trans (by rw [ej];rfl))) rfl) ?_) (fin _ ⟨?_,?_,?_⟩)
    ·show (if 0<=(j:Int)/\(j:Int)<=ts.length/\ts.length<lim then some (nn,ts.take (j:Int).toNat++int 1::ts.drop (j:Int).toNat) else none)=_
     rw [if_pos ⟨natCast_nonneg j,by exact H1 e hj,lt_of_le_of_lt (le_of_eq e) (lt_of_le_of_lt hn (by decide))⟩,toNat_natCast]
    ·refine all_eq_true.mpr fun t ht=>?_
     rcases mem_append.mp ht with ht | ht
     ·exact all_eq_true.mp L.ok t (mem_of_mem_take ht)
     ·rcases mem_cons.mp ht with rfl | ht
      ·rfl
      ·exact all_eq_true.mp L.ok t (List.mem_of_mem_drop ht)
    ·rw [length_append,length_cons,length_take,length_drop];omega
    ·rw [length_append,length_cons,length_take,length_drop];omega
  refine zq (ds.getD 41 0%12%4==1&&(decide (ds.getD 41 0%12<6)&&decide ((n:Int)>0))) (x_p (wS (zJ (zN (e12 _) (y:=int 4) rfl rfl) (y:=int 1) rfl rfl) (wS (zJ (e12 _) (y:=int 6) rfl rfl) (zJ (x:=int n) (y:=int 0) rfl rfl rfl))) rfl) rfl ?_
  have ln:((List.range n).map fun j=>int (g j)).length=n:=by rw [length_map,length_range]
  rw [gt0]
  by_cases h:0<n
  ·rw [decide_eq_true h,Bool.and_true]
   cases ds.getD 41 0%12%4==1&&decide (ds.getD 41 0%12<6) with
   |false=>exact .ok (mid _ L0 ln)
   |true =>
    obtain ⟨t,ht,ρc,c⟩:=JJ (c:=ds.getD 43 0)
    obtain ⟨j,ej,hj⟩:=Wl (c:=ds.getD 42 0) (n:=n) h
    refine Ge (x:=3) (k:=j) (t:=t) (zy (ts:=[int (ds.getD 43 0)]) (yY (xA rfl hl (by decide))) rfl rfl c) rfl (zN (xA (j:=42) rfl hl (by decide)) (y:=int n) rfl ((if_pos (ofNat_lt.mpr h)).trans (by rw [ej];rfl))) (by rw [ln];exact hj) rfl rfl ?_
    refine mid _ ⟨all_eq_true.mpr fun u hu=>?_,?_,?_⟩ ?_
    ·rcases List.mem_or_eq_of_mem_set hu with hu | rfl
     ·exact all_eq_true.mp L0.ok u hu
     ·exact ht
    ·rw [length_set];exact L0.lo
    ·rw [length_set];exact L0.hi
    ·rw [length_set];exact ln
  ·rw [decide_eq_false h,Bool.and_false,Bool.and_false]
   exact .ok (mid _ L0 ln)
 obtain ⟨r,ρ,e,ts,rfl,h⟩:=w.get
 exact ⟨ts,h,ρ,e⟩
end
theorem es4 {f:Nat} {ρ:VS} {a x y z:za} {t u v w:Tr} (h0:EP f a ρ=.ok w) (h1:EP f x ρ=.ok t) (h2:EP f y ρ=.ok u) (h3:EP f z ρ=.ok v):ES f (.cons a (.cons x (.cons y (.cons z .nil)))) ρ=.ok [w,t,u,v]:=by
 show ((EP f a ρ).bind fun v=>(ES f (.cons x (.cons y (.cons z .nil))) ρ).bind fun l=>Ex.ok (v::l))=_
 rw [h0,es3 h1 h2 h3];rfl
theorem Kz {f:Nat} {ρ:VS} {es:za} {ts:List Tr} (h:ES f es ρ=.ok ts) (l:Nat.ble ts.length 1000=true):EP f (.lst es) ρ=.ok (.nd .lst ts):=by
 show (ES f es ρ).bind mkL=_
 rw [h];exact qu (le_of_ble_eq_true l)
theorem U4 {s:RG} (R:Okr s) {c:Int}:∃ d,okD d=true/\zL 63 [int c,tII s.1,int s.2] (dT d):=by
 have w:VW (vc 63 [int c,tII s.1,int s.2]) fun r _=>∃ d,r=dT d/\okD d=true:=by
  refine zS (d:=uB) rfl rfl rfl rfl rfl ?_
  obtain ⟨ds,hl,ρd,cd⟩:=ZG (c:=c)
  have lp:(s.1.map tI).length=s.1.length:=length_map _
  refine vo (zF (ts:=[int c,int 46]) rfl rfl rfl cd) rfl rfl ?_
  refine yn (t:=int (ds.getD 44 0 / 3%4)) (zN (zN (xA (j:=44) (x:=3) rfl hl (by decide)) (y:=int 3) rfl rfl) (y:=int 4) rfl rfl) rfl rfl rfl ?_
  refine zq (decide (c%16<4)) rfl rfl ?_
  cases decide (c%16<4) with
  |true =>
   obtain ⟨ts,ok,ρc,z⟩:=Wp (k:=ds.getD 44 0 / 3%4) hl R.h40
   exact z8 (x_p (Kz (es2 rfl (zy (ts:=[tI ds,int s.2,int (ds.getD 44 0 / 3%4)]) rfl rfl rfl z)) rfl) rfl) rfl rfl ⟨.come ts,rfl,ok⟩
  |false =>
  refine .ok (zq (c%16==4) rfl rfl ?_)
  cases c%16==4 with
  |true =>
   obtain ⟨t,ok,ρc,z⟩:=jt (c:=ds.getD 40 0) (n:=s.1.length)
   exact z8 (x_p (Kz (es2 rfl (zy (ts:=[int (ds.getD 40 0),int s.1.length]) (es2 (xA (j:=40) rfl hl (by decide)) (yE rfl lp)) rfl rfl z)) rfl) rfl) rfl rfl ⟨.leave t,rfl,ok⟩
  |false =>
  refine .ok (zq (decide (c%16<9)) rfl rfl ?_)
  cases decide (c%16<9) with
  |true =>
   obtain ⟨ts,ok,ρc,z⟩:=Wp (k:=ds.getD 44 0 / 3%4) hl (n:=s.1.length) (Nat.le_trans R.h9 (by decide))
   exact z8 (x_p (Kz (es2 rfl (zy (ts:=[tI ds,int s.1.length,int (ds.getD 44 0 / 3%4)]) (es3 rfl (yE rfl lp) rfl) rfl rfl z)) rfl) rfl) rfl rfl ⟨.put ts,rfl,ok⟩
  |false =>
  refine .ok (zq (c%16==9) rfl rfl ?_)
  cases c%16==9 with
  |true =>
   obtain ⟨t,ok,ρc,z⟩:=jt (c:=ds.getD 40 0) (n:=s.2)
   exact z8 (x_p (Kz (es2 rfl (zy (ts:=[int (ds.getD 40 0),int s.2]) (es2 (xA (j:=40) rfl hl (by decide)) rfl) rfl rfl z)) rfl) rfl) rfl rfl ⟨.take t,rfl,ok⟩
  |false =>
  refine .ok (zq (decide (c%16<13)) rfl rfl ?_)
  cases decide (c%16<13) with
  |false=>exact .ok (z8 (t:=dT .back) rfl rfl rfl ⟨.back,rfl,rfl⟩)
  |true =>
   obtain ⟨x,ρb,cb⟩:=Vt (c:=ds.getD 39 0) (k:=ds.getD 44 0 / 3%4)
   refine vo (zF (ts:=[int (ds.getD 39 0),int (ds.getD 44 0 / 3%4)]) (es2 (xA (j:=39) rfl hl (by decide)) rfl) rfl rfl cb) rfl rfl ?_
   have fin:∀ v,okT v=true->VW (X 63 (.cons (.ret (.lst (.cons (.const (.str [98,105,100])) (.cons (.call 60 (.cons (.sub (.loc 3) (.const (.int 40))) (.cons (.bi .len (.cons (.loc 1) .nil)) .nil))) (.cons (.call 60 (.cons (.sub (.loc 3) (.const (.int 45))) (.cons (.loc 2) .nil))) (.cons (.loc 5) .nil)))))) .nil) [some (int c),some (tII s.1),some (int s.2),some (tI ds),some (int (ds.getD 44 0 / 3%4)),some v]) (Nx 63 (.cons (.ret (.lst (.cons (.const (.str [98,97,99,107])) .nil))) .nil) (Rt fun r _=>∃ d,r=dT d/\okD d=true)):=fun v hv=>by
    obtain ⟨t,ok,ρc,z⟩:=jt (c:=ds.getD 40 0) (n:=s.1.length)
    obtain ⟨u,ok2,ρc2,z2⟩:=jt (c:=ds.getD 45 0) (n:=s.2)
    refine z8 (x_p (Kz (es4 rfl (zy (ts:=[int (ds.getD 40 0),int s.1.length]) (es2 (xA (j:=40) rfl hl (by decide)) (yE rfl lp)) rfl rfl z) (zy (ts:=[int (ds.getD 45 0),int s.2]) (es2 (xA (j:=45) rfl hl (by decide)) rfl) rfl rfl z2) rfl) rfl) rfl) rfl rfl ⟨.bid t u v,rfl,?_⟩
    show (okT t&&okT u&&okT v)=true
    rw [ok,ok2,hv];rfl
   refine zq (ds.getD 38 0%7==1) (yk (Qe (zN (xA (j:=38) (x:=3) rfl hl (by decide)) (y:=int 7) rfl rfl) rfl) (y:=int 1) rfl rfl) rfl ?_
   cases ds.getD 38 0%7==1 with
   |false=>exact .ok (fin (int x) rfl)
   |true =>
    obtain ⟨v,ok,ρc,z⟩:=JJ (c:=ds.getD 38 0 / 7)
    exact vo (zF (ts:=[int (ds.getD 38 0 / 7)]) (yY (zN (xA (j:=38) (x:=3) rfl hl (by decide)) (y:=int 7) rfl rfl)) rfl rfl z) rfl rfl (fin v ok)
 obtain ⟨r,ρ,e,d,rfl,h⟩:=w.get
 exact ⟨d,h,ρ,e⟩
theorem U9 {xs:List Int}:∃ x,zL 23 [.nd .ro (xs.map int),int 0] (int x):=by
 cases xs with
 |nil=>exact ⟨0,yo (zS (d:=vB) rfl rfl rfl rfl rfl (zq (t:=bool false) false rfl rfl (.ok (zq (t:=bool true) true rfl rfl (zR (t:=int 0) rfl rfl rfl)))))⟩
 |cons x xs =>
  refine ⟨x,yo (zS (d:=vB) rfl rfl rfl rfl rfl (zq true (yk (x:=int 0) (y:=int (xs.length+1:Nat)) rfl ?_ ?_) rfl (z8 (t:=int x) (x_p (zB (y:=int (0:Nat)) rfl rfl ?_) rfl) rfl rfl rfl)))⟩
  ·show Ex.ok (int (((x::xs).map int).length:Nat))=_
   rw [length_map];rfl
  ·exact congrArg some (decide_eq_true (ofNat_lt.mpr (succ_pos _)))
  ·show ((yX ((0:Nat):Int) ((x::xs).map int).length).bind fun j=>((x::xs).map int)[j]?)=_
   rw [ju (by rw [length_map];exact succ_pos _)];rfl
section
variable {s:RG} {past:List RG}
noncomputable def uX (f:Nat) (ts:List Tr):Ex Tr->Prop
 | .ok t=>zL f ts t
 | .exc c=>Vv f ts c
 | .stuck=>False
theorem vf {f g:Nat} {args:za} {ts:List Tr} {ρ:VS} {r:Ex Tr} (hes:ES f args ρ=.ok ts) (l:Nat.blt (sg g).rk (sg f).rk=true) (ok:(j8 (sg g).ps (jQ (sg f).sh args) ts&&!ts.isEmpty)=true) (hc:uX g ts r):EP f (.call g args) ρ=r:=by
 show (ES f args ρ).bind _=_
 rw [hes]
 show cond (j8 (sg g).ps (jQ (sg f).sh args) ts&&!ts.isEmpty) (Zt (XC f g ts)) .stuck=_
 rw [ok,JI l]
 cases r with
 |ok t=>obtain ⟨ρc,e⟩:=hc;rw [e];rfl
 |exc c=>obtain ⟨ρc,e⟩:=hc;rw [e];rfl
 |stuck=>exact hc.elim
theorem jN {f g x:Nat} {ρ:VS} {r:Ex Tr} {tb:Tr} (h:ρ[x]?=some (some tb)) (hi:vd tb=true) (l:Nat.blt (sg g).rk (sg f).rk=true) (ok:(j8 (sg g).ps [cls (sg f).sh (.loc x)] [tb]&&true)=true) (hc:uX g [tb] r):EP f (.mcall g (.loc x) .nil) ρ=r:=by
 refine Eq.trans ?_ (vf (f:=f) (g:=g) (args:=.cons (.loc x) .nil) (ρ:=ρ) (yY (qN h)) l ok hc)
 show (EP f (.loc x) ρ).bind _=(ES f (.cons (.loc x) .nil) ρ).bind _
 rw [yY (qN h),qN h]
 show cond (vd tb) _ _=_
 rw [hi];rfl
theorem QZ {f:Nat} {ρ:VS} {e:za} {r:zk} (hr:wE sg (sg f).sh (XC f) (npO f) (sg f).rs e ρ=(EP f e ρ).on ρ):X f (.cons (.ret e) r) ρ=((EP f e ρ).on ρ).bind fun t ρ=>.ok (.ret t) ρ:=by
 show ((wE sg (sg f).sh (XC f) (npO f) (sg f).rs e ρ).bind _).bind _=_
 rw [hr]
 cases EP f e ρ <;> rfl
theorem Kv {f:Nat} {ts:List Tr} {d:zr} {e:za} {r:Ex Tr} (hd:vc f ts=qr (X f d.body (ts.map some++List.replicate (d.ns-d.np) none))) (hb:d.body=.cons (.ret e) .nil) (hr:wE sg (sg f).sh (XC f) (npO f) (sg f).rs e (ts.map some++List.replicate (d.ns-d.np) none)=(EP f e (ts.map some++List.replicate (d.ns-d.np) none)).on (ts.map some++List.replicate (d.ns-d.np) none)) (he:EP f e (ts.map some++List.replicate (d.ns-d.np) none)=r) (hs:r≠.stuck):uX f ts r:=by
 rw [hb,QZ hr,he] at hd
 cases r with
 |ok t=>exact ⟨_,hd⟩
 |exc c=>exact ⟨_,hd⟩
 |stuck=>exact hs rfl
noncomputable def xt (s:RG):Ex Tr:=if s.1=[] then .exc 1 else .ok (xf s.1 s.1.length s.2)
theorem Xj (R:Okr s):uX 13 [tII s.1] (xt s):=by
 unfold xt
 by_cases h:s.1=[]
 ·rw [if_pos h,h]
  obtain ⟨ρc,e⟩:=Qt
  refine ⟨_,(z9 (d:=vC) rfl rfl rfl rfl rfl).trans (congrArg qr (vZ (qh (ts:=[tII []]) rfl rfl rfl e)))⟩
 ·rw [if_neg h];exact Vi R.b (length_pos_iff.mpr h) R.h9 R.h40
structure AA (s:RG) (r:Ex Tr):Prop where
 none:s.1=[]->r=.exc 1
 many:s.1 ≠ []->s.1.length<s.2->r=.exc 2
 fair:s.1 ≠ []->s.2<=s.1.length->∃ H S,r=.ok (yT s.1.length H S)/\Vy s.1 s.1.length s.2 H S/\∀ i,(H i).length<=1
theorem wG (R:Okr s):∃ r,AA s r/\uX 14 [tII s.1] r:=by
 by_cases h:s.1=[]
 ·obtain ⟨ρc,e⟩:=Qt
  refine ⟨.exc 1,⟨fun _=>rfl,fun n=>absurd h n,fun n=>absurd h n⟩,?_⟩
  rw [h]
  exact ⟨_,(z9 (d:=j6) rfl rfl rfl rfl rfl).trans (congrArg qr (vZ (qh (ts:=[tII []]) rfl rfl rfl e)))⟩
 ·have hp:=length_pos_iff.mpr h
  by_cases l:s.1.length<s.2
  ·obtain ⟨ρc,lk⟩:=Jl R.b hp R.h9 R.h40
   refine ⟨.exc 2,⟨fun n=>absurd n h,fun _ _=>rfl,fun _ z=>absurd l (Nat.not_lt.mpr z)⟩,_,(z9 (d:=j6) rfl rfl rfl rfl rfl).trans (congrArg qr ((vi (zF (ts:=[tII s.1]) rfl rfl rfl lk)).trans ((Yu (t:=int s.1.length) (x_p (jk rfl) rfl) rfl rfl).trans ((Yu (t:=int s.2) (x_p (yE (Jx (g:=tI) (xs:=s.1) (k:=0) (d:=[]) rfl rfl hp) (by rw [length_map];exact (R.b.at hp).1)) rfl) rfl rfl).trans (vY (t:=bool true) (yk (op:=.Gt) (c:=true) (x:=int s.2) (y:=int s.1.length) rfl rfl (congrArg some (decide_eq_true (ofNat_lt.mpr l)))) rfl)))))⟩
  ·have hm:=le_of_not_lt l
   obtain ⟨r,ρ,e,pl,paid,x,y,rfl,T⟩:=(Vh R.b hp R.h9 hm).get
   refine ⟨.ok _,⟨fun n=>absurd n h,fun _ z=>absurd z l,fun _ _=>⟨_,_,rfl,W2 R.b T hm,fun i=>?_⟩⟩,ρ,e⟩
   unfold ja
   by_cases q:pl i<s.2
   ·rw [if_pos q];exact Nat.le_refl 1
   ·rw [if_neg q];exact zero_le 1
theorem ZH:xt s≠.stuck:=by
 unfold xt
 by_cases h:s.1=[]
 ·rw [if_pos h];exact fun e=>nomatch e
 ·rw [if_neg h];exact fun e=>nomatch e
theorem Ud (R:Okr s):uX 90 [tbT s past] (xt s):=Kv (d:=wr) (z9 rfl rfl rfl rfl rfl) rfl rfl (vf (ts:=[tII s.1]) (yY (uK R rfl rfl)) rfl rfl (Xj R)) ZH
theorem X3 (R:Okr s) {r:Ex Tr} (h:uX 14 [tII s.1] r):uX 91 [tbT s past] r:=Kv (d:=wq) (z9 rfl rfl rfl rfl rfl) rfl rfl (vf (ts:=[tII s.1]) (yY (uK R rfl rfl)) rfl rfl h) fun e=>by rw [e] at h;exact h
noncomputable def KE:List (Nat × Bool × Val):=[(2,false,.str [84,111,111,77,97,110,121]),(1,false,.str [78,111,80,101,111,112,108,101])]
noncomputable def AG (r:Ex Tr):Option Tr:=match r with
 | .ok t=>some t
 | .exc c=>(qw c KE).map Tr.sc
 | .stuck=>none
theorem jP {b:Bool} {r:Ex Tr} {t:Tr} (h:uX (cond b 91 90) [tbT s past] r) (ht:AG r=some t):zL 71 [tbT s past,bool b] t:=by
 have q:=z9 (f:=71) (ts:=[tbT s past,bool b]) (d:=qy) rfl rfl rfl rfl rfl
 have fin:∀ {x:VR VF},X 71 qy.body [some (tbT s past),some (bool b)]=(Z9 KE x).bind (fun p ρ=>match p with | .next=>.ok .next ρ | .ret t=>.ok (.ret t) ρ)->x=(r.on [some (tbT s past),some (bool b)]).bind (fun t ρ=>.ok (.ret t) ρ)->zL 71 [tbT s past,bool b] t:=fun {x} h1 h2=>by
  rw [h2] at h1
  cases r with
  |ok u=>cases ht;exact ⟨_,q.trans (congrArg qr h1)⟩
  |exc c =>
   have h1:X 71 qy.body [some (tbT s past),some (bool b)]=VR.bind (match qw c KE with | some v=>VR.ok (VF.ret (.sc v)) [some (tbT s past),some (bool b)] | none=>.stuck) (fun p ρ=>match p with | .next=>.ok .next ρ | .ret t=>.ok (.ret t) ρ):=h1
   have ht:(qw c KE).map Tr.sc=some t:=ht
   cases hc:qw c KE with
   |none=>rw [hc] at ht;cases ht
   |some v=>rw [hc] at ht h1;cases ht;exact ⟨_,q.trans (congrArg qr h1)⟩
  |stuck=>cases ht
 cases b with
 |true =>
  have h:uX 91 [tbT s past] r:=h
  refine fin rfl ((KX true rfl rfl).trans ?_)
  show VR.bind (X 71 (.cons (.ret (.mcall 91 (.loc 0) .nil)) .nil) _) _=_
  rw [QZ rfl,jN (x:=0) (tb:=tbT s past) rfl rfl rfl rfl h]
  cases r <;> rfl
 |false =>
  have h:uX 90 [tbT s past] r:=h
  refine fin rfl ((KX false rfl rfl).trans ?_)
  show X 71 (.cons (.ret (.mcall 90 (.loc 0) .nil)) .nil) _=_
  rw [QZ rfl,jN (x:=0) (tb:=tbT s past) rfl rfl rfl rfl h]
end
theorem wR {α:Type} {g:α->Tr} {xs:List α}:tEq 8 (.nd .lst (xs.map g)) (.nd .lst [])=some (xs.isEmpty):=by
 cases xs <;> rfl
section
variable {s:RG} {past:List RG} {b:Bool}
noncomputable abbrev FV (s:RG) (past:List RG) (b:Bool) (t:Tr) (o5 o6:Option Tr):VS:=[some (tbT s past),some (tII s.1),some (int s.2),some (bool b),some t,o5,o6,none,none,none]
theorem VH {f:Tr->Ex Bool}:∀ {ts:List Tr},(∀ t∈ts,f t=.ok false)->JK f ts=.ok false
 | [],_=>rfl
 |t::ts,h=>by
  show (f t).bind _=_
  rw [h t (.head _)]
  exact VH fun u hu=>h u (.tail _ hu)
theorem Gc {f y x:Nat} {c:za} {v:Val} {r:zk} {ρ:VS} {ts:List Tr} {Q:VF->VS->Prop} (hg:(decide ((sg f).sh.getD y .i=.u)&&isD ((sg f).sh.getD x .i)&&!Nat.beq x y)=true) (hd:(ρ[x]?.bind fun o=>o.bind kg)=some ts) (ha:∀ t∈ts,EP f c (ρ.set y (some t))=.ok (bool false)) (k:Nr f r Q (ρ.set y none)):VW (X f (.cons (.forp y x c v) r) ρ) Q:=by
 refine yJ ?_
 show VW (cond (decide ((sg f).sh.getD y .i=.u)&&isD ((sg f).sh.getD x .i)&&!Nat.beq x y) (VR.opt (ρ[x]?.bind fun o=>o.bind kg) fun ts=>((JK (fun t=>(EP f c (ρ.set y (some t))).bind fun u=>Ex.opt (zd u)) ts).on ρ).bind fun b ρ=>if b then VR.ok (VF.ret (.sc v)) (ρ.set y none) else .ok VF.next (ρ.set y none)) .stuck) _
 rw [hg,hd]
 show VW (((JK (fun t=>(EP f c (ρ.set y (some t))).bind fun u=>Ex.opt (zd u)) ts).on ρ).bind _) _
 rw [VH fun t ht=>by rw [ha t ht];rfl]
 exact .ok k
theorem Gd {f y x:Nat} {e:za} {r:zk} {ρ ρ':VS} {ts:List Tr} {Q:VF->VS->Prop} (hg:(decide ((sg f).sh.getD y .i=.u)&&isD ((sg f).sh.getD x .i)&&!Nat.beq x y)=true) (hd:(ρ[x]?.bind fun o=>o.bind kg)=some ts) (ha:uY (sg f).sh (EP f e) x ts.length 0 (ρ.set y none)=.ok .next ρ') (k:Nr f r Q ρ'):VW (X f (.cons (.fora y x e) r) ρ) Q:=by
 refine yJ ?_
 show VW (cond (decide ((sg f).sh.getD y .i=.u)&&isD ((sg f).sh.getD x .i)&&!Nat.beq x y) (VR.opt (ρ[x]?.bind fun o=>o.bind kg) fun ts=>uY (sg f).sh (EP f e) x ts.length 0 (ρ.set y none)) .stuck) _
 rw [hg,hd]
 show VW (uY (sg f).sh (EP f e) x ts.length 0 (ρ.set y none)) _
 rw [ha];exact .ok k
noncomputable def jg (H:Nat->List Nat) (p k i:Nat):List Nat:=if i<k then H i++[p] else H i
theorem Xl {H:Nat->List Nat} {p k:Nat}:upd (fun i=>tN (jg H p k i)) k (.nd .lst ((H k).map (fun x:Nat=>int x)++[int p]))=fun i=>tN (jg H p (k+1) i):=by
 funext i
 by_cases e:i=k
 ·subst e;rw [zo,jg,if_pos (lt_succ_self i),tN,map_append];rfl
 ·rw [zu e]
  unfold jg
  by_cases l:i<k
  ·rw [if_pos l,if_pos (lt_succ_of_lt l)]
  ·rw [if_neg l,if_neg fun z=>(lt_succ_iff_lt_or_eq.mp z).elim l e]
theorem VG {H:Nat->List Nat} {S:Nat->Int} {p:Nat} {o6:Option Tr} (hp:p=s.1.length) (len:∀ i,i<p->(H i).length<=1000):∀ (n k:Nat),k+n=p->uY (sg 73).sh (EP 73 (.bi .len (.cons (.loc 1) .nil))) 4 n k (FV s past b (yT p (jg H p k) S) none o6)=.ok .next (FV s past b (yT p (jg H p p) S) none o6)
 | 0,k,e=>by rw [<- show k=p from e];rfl
 |n+1,k,e=>by
  have hk:k<p:=by exact YV e
  show VR.opt (yB (sg 73).sh (4,[0,k]) _) _=_
  rw [show yB (sg 73).sh (4,[0,k]) (FV s past b (yT p (jg H p k) S) none o6)=some ((H k).map fun x:Nat=>int x) from by
   show ((yg p fun i=>tN (jg H p k i))[k]?.bind (Km [])).bind Jk=_
   rw [qA hk,jg,if_neg (lt_irrefl k)];rfl]
  dsimp only [VR.opt]
  rw [yE (ts:=s.1.map tI) (n:=p) rfl (by rw [length_map,hp])]
  show cond (true&&Nat.blt ((H k).map fun x:Nat=>int x).length lim) _ _=_
  rw [show Nat.blt ((H k).map fun x:Nat=>int x).length lim=true from ble_eq_true_of_le (by rw [length_map];exact lt_of_le_of_lt (len k hk) (by decide))]
  show uY _ _ 4 n (k+1) (FV s past b (.nd .tup [.nd .lst ((yg p fun i=>tN (jg H p k i)).modify k (vV [] (.nd .lst ((H k).map (fun x:Nat=>int x)++[int p])))),tA p (iT S)]) none o6)=_
  rw [WP (t:=.nd .lst ((H k).map (fun x:Nat=>int x)++[int p])) rfl,Xl]
  exact VG hp len n (k+1) (by exact YU e)
noncomputable def Al:zk:=(.cons (.forp 5 4 (.and (.loc 3) (.cmp .Gt (.bi .len (.cons (.loc 5) .nil)) (.const (.int 1)))) (.bool false))
 (.cons (.assign 6 (.comp (.bi .len (.cons (.loc 8) .nil)) (.loc 8) (.iobj (.sub (.loc 4) (.const (.int 0)))) (.const (.bool true))))
 (.cons (.fora 5 4 (.bi .len (.cons (.loc 1) .nil)))
 (.cons (.asub (.sub (.loc 4) (.const (.int 1))) (.const (.int 0)) (.bin .Add (.sub (.sub (.loc 4) (.const (.int 1))) (.const (.int 0))) (.const (.int 1))))
 (.cons (.ret (.cmp .Eq (.loc 6) (.comp (.bin .Sub (.bi .len (.cons (.loc 9) .nil)) (.const (.int 1))) (.loc 9) (.iobj (.sub (.loc 4) (.const (.int 0)))) (.const (.bool true)))))
 .nil)))))
theorem Ko {H:Nat->List Nat} {S:Nat->Int} {p:Nat} (hp:p=s.1.length) (h0:0<p) (h9:p<=9) (len:∀ i,i<p->(H i).length<=1000) (one:b=true->∀ i,(H i).length<=1):VW (X 73 Al (FV s past b (yT p H S) none none)) (Rt fun r _=>r=bool true):=by
 have pk:p<=1000:=Nat.le_trans h9 (by decide)
 refine Gc (ts:=yg p fun i=>tN (H i)) rfl rfl (fun t ht=>?_) ?_
 ·obtain ⟨i,_,rfl⟩:=mem_map.mp ht
  cases b with
  |false=>rfl
  |true=>exact zW (t:=bool true) rfl rfl (zJ (op:=.Gt) (c:=false) (yE (ts:=(H i).map fun x:Nat=>int x) (n:=(H i).length) rfl (length_map _)) (y:=int 1) rfl (congrArg some (decide_eq_false (Int.not_lt.mpr (ofNat_le.mpr (one rfl i))))))
 refine yn (t:=tA p fun i=>int (H i).length) (yf (y:=8) (it:=.iobj (.sub (.loc 4) (.const (.int 0)))) (g:=fun i=>tN (H i)) (h:=fun i=>int (H i).length) (xs:=List.range p) rfl rfl (by rw [length_range];exact pk) fun i _=>⟨yE rfl (length_map _),rfl⟩) rfl rfl rfl ?_
 refine Gd (ts:=yg p fun i=>tN (H i)) rfl rfl (by rw [yu];exact VG (s:=s) (past:=past) (b:=b) (H:=H) (S:=S) (o6:=some (tA p fun i=>int (H i).length)) hp len p 0 (Nat.zero_add p)) ?_
 show VW (X 73 (.cons (.asub _ _ _) _) _) _
 rw [Tw (k:=1) (j:=0) (us:=yg p (iT S)) (T:=yT p (jg H p p) S) (I:=int 1) rfl rfl rfl rfl rfl (zN (x:=int (S 0)) (zB (x:=tA p (iT S)) (y:=int (0:Nat)) rfl rfl (zG h0)) (y:=int 1) rfl rfl) rfl (by rw [yu];exact h0)]
 refine z8 (t:=bool true) (yk (x_p rfl rfl) (yf (y:=9) (it:=.iobj (.sub (.loc 4) (.const (.int 0)))) (elt:=.bin .Sub (.bi .len (.cons (.loc 9) .nil)) (.const (.int 1))) (g:=fun i=>tN (jg H p p i)) (h:=fun i=>int (((jg H p p i).length:Nat)-1)) (xs:=List.range p) rfl rfl (by rw [length_range];exact pk) fun i _=>⟨zN (yE rfl (length_map _)) (y:=int 1) rfl rfl,rfl⟩) ?_) rfl rfl rfl
 rw [show (List.range p).map (fun i=>int (((jg H p p i).length:Nat)-1))=(List.range p).map fun i=>int (H i).length from map_congr_left fun i hi=>by
  rw [jg,if_pos (mem_range.mp hi),length_append]
  exact congrArg int (Int.add_sub_cancel ((H i).length:Int) 1)]
 exact xC fun i=>xD
end
section
variable {s:RG} {past:List RG} {b:Bool}
theorem ZC {f x y:Nat} {ρ:VS} (R:Okr s) (hx:EI f (.iobj (.loc x)) ρ=.ok (s.1.map tI)) (hy:∀ t:Tr,EP f (.loc y) (ρ.set y (some t))=.ok t) (hc:(cls (sg f).sh (.iobj (.loc x))).cov ((sg f).sh.getD y .i)=true) (st:∀ t:Tr,zM (cls (sg f).sh (.bi .list (.cons (.loc y) .nil))) t=true) :
  EP f (.comp (.bi .list (.cons (.loc y) .nil)) (.loc y) (.iobj (.loc x)) (.const (.bool true))) ρ=.ok (tII s.1) :=
 yf (g:=tI) (h:=tI) (xs:=s.1) hx hc (Nat.le_trans R.h9 (by decide)) fun r hr=>⟨j7 (ts:=r.map int) (hy _) yv (by rw [length_map,(R.b.row r hr).1];exact Nat.le_trans R.h40 (by decide)),st _⟩
theorem QB (R:Okr s) (ne:s.1 ≠ []) {H:Nat->List Nat} {S:Nat->Int} (D:Vy s.1 s.1.length s.2 H S) (len:∀ i,i<s.1.length->(H i).length<=1000) (one:b=true->s.2<=s.1.length/\zL 14 [tII s.1] (yT s.1.length H S)/\∀ i,(H i).length<=1) (hb:b=false->yT s.1.length H S=xf s.1 s.1.length s.2)
  (h:zL 71 [tbT s past,bool b] (yT s.1.length H S)):zL 73 [tbT s past,tII s.1,int s.2,bool b] (bool true):=by
 have hp:=length_pos_iff.mpr ne
 have el:∀ {o5 o6},EP 73 (.bi .len (.cons (.loc 1) .nil)) (FV s past b (yT s.1.length H S) o5 o6)=.ok (int s.1.length):=fun {_ _}=>jk rfl
 obtain ⟨ρ1,c1⟩:=h
 obtain ⟨ρ2,c2⟩:=Ze D R.h9 R.h40
 obtain ⟨ρ3,c3⟩:=Xo R.b D R.h9
 refine yo (zS (d:=j4) rfl rfl rfl rfl rfl ?_)
 refine jE (x:=4) (t:=yT s.1.length H S) (zy (f:=73) (ts:=[tbT s past,bool b]) rfl rfl rfl c1) rfl ?_
 refine zq false (yk (x_p rfl rfl) (y:=.nd .lst []) rfl (wR.trans (congrArg some (isEmpty_eq_false_iff.mpr ne)))) rfl (.ok ?_)
 refine zq false (x_p (wS (x:=b) (y:=decide ((s.2:Int)>s.1.length)) rfl (zJ (x:=int s.2) rfl el rfl)) rfl) (by
  cases b with
  |false=>rfl
  |true=>exact congrArg some (decide_eq_false (Int.not_lt.mpr (ofNat_le.mpr (one rfl).1)))) (.ok ?_)
 refine zq false (x_p (jO (t:=bool false) (ji (b:=true) (zy (ts:=[yT s.1.length H S,int s.1.length,int s.2]) (es3 rfl el rfl) rfl rfl c2) rfl) rfl (zy (ts:=[tII s.1,tA s.1.length fun i=>tN (H i),tA s.1.length (iT S)]) rfl rfl rfl c3)) rfl) rfl (.ok ?_)
 have nq:ym .NotEq (yT s.1.length H S) (yT s.1.length H S)=some false:=congrArg (Option.map (!·)) (wv (n:=5))
 cases b with
 |false =>
  obtain ⟨ρ4,c4⟩:=wZ R.b hp R.h9 R.h40
  rw [<- hb rfl] at c4
  refine zq false (x_p (zW (t:=bool true) rfl rfl (zJ rfl (zy (ts:=[tII s.1,int s.2]) rfl rfl rfl c4) nq)) rfl) rfl (.ok ?_)
  refine zq (t:=bool false) false rfl rfl (.ok ?_)
  exact Ko rfl hp R.h9 len (fun h=>nomatch h)
 |true =>
  obtain ⟨_,⟨ρ4,c4⟩,o⟩:=one rfl
  refine zq (t:=bool false) false rfl rfl (.ok ?_)
  refine zq false (x_p (zW (t:=bool true) rfl rfl (zJ rfl (zy (ts:=[tII s.1]) (yY (ZC R rfl (fun _=>rfl) rfl fun _=>rfl)) rfl rfl c4) nq)) rfl) rfl (.ok ?_)
  exact Ko rfl hp R.h9 len fun _=>o
theorem WB (R:Okr s):zL 73 [tbT s past,tII s.1,int s.2,bool b] (bool true):=by
 obtain ⟨r,RE,en⟩:=wG R
 by_cases ne:s.1=[]
 ·have g:zL 71 [tbT s past,bool b] (sT [78,111,80,101,111,112,108,101]):=by
   cases b with
   |true=>exact jP (r:=.exc 1) (RE.none ne▸X3 R en) rfl
   |false=>exact jP (r:=.exc 1) ((if_pos ne:xt s=_)▸Ud R) rfl
  obtain ⟨ρ1,c1⟩:=g
  refine yo (zS (d:=j4) rfl rfl rfl rfl rfl ?_)
  refine jE (x:=4) (zy (f:=73) (ts:=[tbT s past,bool b]) rfl rfl rfl c1) rfl ?_
  refine zq true (yk (x_p rfl rfl) (y:=.nd .lst []) rfl (wR.trans (congrArg some (isEmpty_iff.mpr ne)))) rfl ?_
  exact z8 (t:=bool true) rfl rfl rfl rfl
 ·cases b with
  |false=>exact QB R ne (Xk (length_pos_iff.mpr ne)) (fun _ _=>Kl R.h40) (fun h=>nomatch h) (fun _=>rfl) (jP (r:=.ok _) ((if_neg ne:xt s=_)▸Ud R) rfl)
  |true =>
   by_cases l:s.1.length<s.2
   ·obtain ⟨ρ1,c1⟩:=jP (s:=s) (past:=past) (b:=true) (r:=.exc 2) (RE.many ne l▸X3 R en) rfl
    refine yo (zS (d:=j4) rfl rfl rfl rfl rfl ?_)
    refine jE (x:=4) (zy (f:=73) (ts:=[tbT s past,bool true]) rfl rfl rfl c1) rfl ?_
    refine zq false (yk (x_p rfl rfl) (y:=.nd .lst []) rfl (wR.trans (congrArg some (isEmpty_eq_false_iff.mpr ne)))) rfl (.ok ?_)
    refine zq true (x_p (zW (t:=bool true) rfl rfl (zJ (op:=.Gt) (c:=true) (x:=int s.2) rfl (jk rfl) (congrArg some (decide_eq_true (ofNat_lt.mpr l))))) rfl) rfl ?_
    exact z8 (t:=bool true) rfl rfl rfl rfl
   ·have hm:=le_of_not_lt l
    obtain ⟨H,S,e,D,o⟩:=RE.fair ne hm
    exact QB R ne D (fun i _=>Nat.le_trans (o i) (by decide)) (fun _=>⟨hm,by rw [e] at en;exact en,o⟩) (fun h=>nomatch h) (jP (r:=.ok _) (e▸X3 R en) rfl)
end
noncomputable def pT2 (t:Tr):Tr:=.nd .tup [t,t]
theorem UZ {j:Int} {n:Nat} (h1:-(n:Int)<=j) (h2:j<n):∃ k,k<n/\yX j n=some k:=by
 unfold yX
 by_cases q:0<=j
 ·rw [if_pos q,if_pos h2];exact ⟨_,by exact H0 h2 q,rfl⟩
 ·rw [if_neg q,if_pos (by exact HZ h1)];exact ⟨_,by exact HY h1 q,rfl⟩
section
variable {s:RG} {past:List RG} {hs:List Tr}
structure Hl (hs:List Tr) (n:Nat):Prop where
 eq:∀ t∈hs,tEq 8 t t=some true
 len:hs.length<=n
noncomputable abbrev H5 (s:RG) (past:List RG) (hs:List Tr):VS:=[some (tbT s past),some (tII s.1),some (int s.2),some (.nd .lst (hs.map pT2)),none]
theorem Zx {e:za} {j:Int} {n:Nat} (L:Hl hs n) (h1:-(hs.length:Int)<=j) (h2:j<hs.length) (he:EP 75 e (H5 s past hs)=.ok (int j)):EP 75 (.cmp .Eq (.sub (.sub (.loc 3) e) (.const (.int 0))) (.sub (.sub (.loc 3) e) (.const (.int 1)))) (H5 s past hs)=.ok (bool true):=by
 obtain ⟨k,hk,ek⟩:=UZ h1 h2
 have e1:vz (.nd .lst (hs.map pT2)) (int j)=some (pT2 hs[k]):=by
  show ((yX j (hs.map pT2).length).bind fun j=>(hs.map pT2)[j]?)=_
  rw [length_map,ek]
  show (hs.map pT2)[k]?=_
  rw [getElem?_map,getElem?_eq_getElem hk];rfl
 exact zJ (x:=hs[k]) (y:=hs[k]) (zB (zB rfl he e1) (y:=int 0) rfl rfl) (zB (zB rfl he e1) (y:=int 1) rfl rfl) (L.eq _ (getElem_mem hk))
theorem XJ {a b:za} {t:Tr} (ha:EP 75 a (H5 s past hs)=.ok t) (hb:EP 75 b (H5 s past hs)=.ok t) (st:xY (jQ (sg 75).sh (.cons (.tup (.cons a (.cons b .nil))) .nil)) [pT2 t]=true) (l:hs.length<=1000):EX 75 (.meth .append (.loc 3) (.cons (.tup (.cons a (.cons b .nil))) .nil)) (H5 s past hs)=.ok nn (H5 s past (hs++[t])):=by
 refine (jT (xq:=(3,[])) (us:=hs.map pT2) (w:=(nn,(hs++[t]).map pT2)) rfl rfl rfl (as:=[pT2 t]) (yY (Vm ha hb)) ?_).trans rfl
 rw [map_append]
 exact xH st (by rw [length_map];exact l)
theorem U1 {n:Nat} (R:Okr s) (L:Hl hs n) (l:n<=500):∃ hs' ρ,vc 75 [tbT s past,tII s.1,int s.2,.nd .lst (hs.map pT2)]=.ok (bool true) ρ/\ρ.getD 3 none=some (.nd .lst (hs'.map pT2))/\Hl hs' (n+2):=by
 have w:VW (vc 75 [tbT s past,tII s.1,int s.2,.nd .lst (hs.map pT2)]) fun r ρ=>r=bool true/\∃ hs',ρ.getD 3 none=some (.nd .lst (hs'.map pT2))/\Hl hs' (n+2):=by
  refine zS (d:=uA) rfl rfl rfl rfl rfl ?_
  by_cases ne:s.1=[]
  ·refine zq true (yk (x_p rfl rfl) (y:=.nd .lst []) rfl (wR.trans (congrArg some (isEmpty_iff.mpr ne)))) rfl ?_
   exact zR (t:=bool true) rfl rfl ⟨rfl,hs,rfl,L.eq,Nat.le_trans L.len (le_add_right _ _)⟩
  ·have hp:=length_pos_iff.mpr ne
   refine zq false (yk (x_p rfl rfl) (y:=.nd .lst []) rfl (wR.trans (congrArg some (isEmpty_eq_false_iff.mpr ne)))) rfl (.ok ?_)
   have fin:∀ {us:List Tr},Hl us (n+2)->us ≠ []->VW (X 75 (.cons (.ret (.and (.cmp .Eq (.sub (.sub (.loc 3) (.un .USub (.const (.int 1)))) (.const (.int 0))) (.sub (.sub (.loc 3) (.un .USub (.const (.int 1)))) (.const (.int 1)))) (.cmp .Eq (.sub (.sub (.loc 3) (.bin .Sub (.bi .len (.cons (.loc 3) .nil)) (.const (.int 2)))) (.const (.int 0))) (.sub (.sub (.loc 3) (.bin .Sub (.bi .len (.cons (.loc 3) .nil)) (.const (.int 2)))) (.const (.int 1)))))) .nil) (H5 s past us)) (Rt fun r ρ=>r=bool true/\∃ hs',ρ.getD 3 none=some (.nd .lst (hs'.map pT2))/\Hl hs' (n+2)):=fun {us} U nu=>by
    have lu:=length_pos_iff.mpr nu
    refine z8 (t:=bool true) (x_p (zW (t:=bool true) (Zx (j:=-1) U (by exact HX lu) (by (first | exact HW | omega)) rfl) rfl (Zx (j:=(us.length:Int)-2) U (by exact HV lu) (by (first | exact HU | omega)) (zN (yE rfl (length_map _)) (y:=int 2) rfl rfl))) rfl) rfl rfl ⟨rfl,us,rfl,U⟩
   have gh:=Ud (past:=past) R
   rw [show xt s=_ from if_neg ne] at gh
   have e2:=wZ R.b hp R.h9 R.h40
   obtain ⟨ρ2,c2⟩:=e2
   refine yU (XJ (t:=xf s.1 s.1.length s.2) (jN (x:=0) rfl rfl rfl rfl gh) (zy (ts:=[tII s.1,int s.2]) rfl rfl rfl c2) rfl (Nat.le_trans L.len (Nat.le_trans l (by decide)))) ?_
   have L1:Hl (hs++[xf s.1 s.1.length s.2]) (n+1):=⟨fun t ht=>(mem_append.mp ht).elim (L.eq t) fun h=>by rw [mem_singleton.mp h];exact wv (n:=5),by rw [length_append];exact succ_le_succ L.len⟩
   refine zq ((((hs++[xf s.1 s.1.length s.2]).length:Nat):Int)%8==1&&decide ((s.2:Int)<=s.1.length)) (x_p (wS (zJ (zN (yE rfl (length_map _)) (y:=int 8) rfl rfl) (y:=int 1) rfl rfl) (zJ (x:=int s.2) rfl (jk rfl) rfl)) rfl) rfl ?_
   by_cases q:((((hs++[xf s.1 s.1.length s.2]).length:Nat):Int)%8==1&&decide ((s.2:Int)<=s.1.length))=true
   ·rw [q]
    have hm:=ofNat_le.mp (of_decide_eq_true (and_eq_true_iff.mp q).2)
    obtain ⟨r,RE,en⟩:=wG R
    obtain ⟨H,S,e,D,o⟩:=RE.fair ne hm
    subst e
    have gr:=X3 (past:=past) R en
    refine yU (XJ (t:=yT s.1.length H S) (jN (x:=0) rfl rfl rfl rfl gr) (vf (ts:=[tII s.1]) (yY (ZC R rfl (fun _=>rfl) rfl fun _=>rfl)) rfl rfl en) rfl (Nat.le_trans L1.len (by exact HS l))) ?_
    exact fin ⟨fun t ht=>(mem_append.mp ht).elim (L1.eq t) fun h=>by rw [mem_singleton.mp h];exact wv (n:=5),by rw [length_append];exact succ_le_succ L1.len⟩ (fun h=>nomatch (List.append_eq_nil_iff.mp h).2)
   ·rw [Bool.not_eq_true _ |>.mp q]
    exact .ok (fin ⟨L1.eq,le_succ_of_le L1.len⟩ fun h=>nomatch (List.append_eq_nil_iff.mp h).2)
 obtain ⟨r,ρ,e,rfl,hs',h1,h2⟩:=w.get
 exact ⟨hs',ρ,e,h1,h2⟩
end
end Mine
set_option maxRecDepth 100000
namespace Mine
open PySem (Operator UnaryOp CmpOp)
noncomputable def Tg:zk->zk->zk
 | .cons s r,t=>.cons s (Tg r t)
 | _,t=>t
noncomputable def xU:Nat->zk->zk
 |n+1,.cons s r=>.cons s (xU n r)
 | _,_=>.nil
noncomputable def KA:Nat->zk->zk
 |n+1,.cons _ r=>KA n r
 | _,r=>r
theorem Tl {f:Nat} {t:zk} {ρ ρ':VS} (h:X f .nil ρ=.ok .next ρ'):X f t ρ=X f t ρ':=by
 have h:VR.ok VF.next ρ=.ok .next ρ':=h
 injection h with _ h
 rw [h]
theorem Hi {f:Nat} {s a b:zk} {ρ ρ':VS} {x:VR VF} (h:X f (.cons s a) ρ=.ok .next ρ') (k:∀ ρ2,X f a ρ2=.ok .next ρ'->X f b ρ2=x):X f (.cons s b) ρ=x:=by
 have h:(X f s ρ).bind (fun p ρ=>match p with | .next=>X f a ρ | .ret t=>.ok (.ret t) ρ)=.ok .next ρ':=h
 show (X f s ρ).bind _=_
 cases q:X f s ρ with
 |ok p ρ2 =>
  rw [q] at h
  cases p with
  |next=>exact k ρ2 h
  |ret=>injection h with h;cases h
 | _=>rw [q] at h;injection h
theorem Tm {f:Nat} {t:zk} (n:Nat):∀ {s:zk} {ρ ρ':VS},X f (xU n s) ρ=.ok .next ρ'->X f (Tg (xU n s) t) ρ=X f t ρ':=by
 induction n with
 |zero=>exact fun h=>Tl h
 |succ n ih =>
  intro s ρ ρ' h
  cases s with
  |cons s r=>exact Hi h fun ρ2 h=>ih h
  | _=>exact Tl h
noncomputable abbrev Q4:=Int × Int × Int × Int
noncomputable def lt3:List Int:=[0,1,2]
noncomputable def Z1:List Q4:=lt3.flatMap fun a=>lt3.flatMap fun b=>lt3.flatMap fun c=>lt3.map fun d=>(a,b,c,d)
noncomputable def mgT (q:Q4):RG:=([[q.1,q.2.1],[q.2.2.1,q.2.2.2]],2)
noncomputable def mgP (q:Q4):List RG:=[([],0),([],1),([],2),([[q.1,q.2.1]],2)]
noncomputable def mgV (f:Int) (q:Q4) (tb:Tr) (o3 o4 o5:Option Tr):VS:=[some (int f),some tb,some (tII (mgT q).1),o3,o4,o5]
noncomputable def mg3:Tr:=.nd .lst [sT [78,111,80,101,111,112,108,101],sT [78,111,80,101,111,112,108,101],sT [78,111,80,101,111,112,108,101],sT [85,110,101,118,101,110],sT [84,111,111,77,97,110,121]]
noncomputable abbrev mgS (f:Int) (q:Q4) (o5:Option Tr):VS:=mgV f q (tbT (mgT q) (mgP q)) (some mg3) (some (tI [q.1,q.2.1])) o5
noncomputable def mgR:zk:=KA 2 qK.body
theorem Ew (f:Int):Z1.map (fun q=>X 74 (xU 14 mgR) (mgV f q (tbT ([],0) []) none none none))=Z1.map fun q=>.ok .next (mgS f q none):=by kernel_rfl
noncomputable def GX:zk:=KA 15 mgR
theorem Ev (f:Int):Z1.map (fun q=>X 74 (xU 12 GX) (mgS f q none))=Z1.map fun q=>.ok .next (mgS f q (some (tI [1,2]))):=by kernel_rfl
theorem Za {α β:Type} {g h:α->β} {xs:List α} (e:xs.map g=xs.map h) {x:α} (hx:x∈xs):g x=h x:=List.map_inj_left.mp e x hx
theorem UQ {c:Int}:c%3∈lt3:=by
 have h1:=emod_nonneg c (b:=3) (by decide)
 have h2:=emod_lt_of_pos c (b:=3) (by decide)
 have:c%3=0\/c%3=1\/c%3=2:=by (first | exact DQ | omega)
 rcases this with h | h | h <;> rw [h] <;> decide
theorem Ey {a b c d:Int} (ha:a∈lt3) (hb:b∈lt3) (hc:c∈lt3) (hd:d∈lt3):(a,b,c,d)∈Z1:=mem_flatMap.mpr ⟨a,ha,mem_flatMap.mpr ⟨b,hb,mem_flatMap.mpr ⟨c,hc,mem_map.mpr ⟨d,hd,rfl⟩⟩⟩⟩
theorem in3 {a:Int} (h:a∈lt3):0<=a/\a<=1000000000000:=by
 have:=all_eq_true.mp (show lt3.all (fun a=>decide (0<=a/\a<=1000000000000))=true from by decide) a h
 exact of_decide_eq_true this
theorem UR {f:Int}:zL 74 [int f] (bool true):=by
 refine yo (zS (d:=qK) rfl rfl rfl rfl rfl ?_)
 refine jE (x:=1) (t:=tbT ([],0) []) (by kernel_rfl) rfl ?_
 have ha:=UQ (c:=f)
 have hb:=UQ (c:=f / 3)
 have hc:=UQ (c:=f / 9)
 have hd:=UQ (c:=f / 27)
 have hq:=Ey ha hb hc hd
 refine yn (t:=tII (mgT (f%3,f / 3%3,f / 9%3,f / 27%3)).1) rfl rfl rfl rfl ?_
 generalize f%3=a at *
 generalize f / 3%3=b at *
 generalize f / 9%3=c at *
 generalize f / 27%3=d at *
 have R:Okr (mgT (a,b,c,d)):=by
  refine ⟨⟨rfl,fun r hr=>?_⟩,le_of_ble_eq_true rfl,le_of_ble_eq_true rfl⟩
  rcases mem_cons.mp hr with rfl | hr
  ·exact ⟨rfl,fun x hx=>(mem_cons.mp hx).elim (fun e=>e▸in3 ha) fun hx=>by rw [mem_singleton.mp hx];exact in3 hb⟩
  ·rw [mem_singleton.mp hr]
   exact ⟨rfl,fun x hx=>(mem_cons.mp hx).elim (fun e=>e▸in3 hc) fun hx=>by rw [mem_singleton.mp hx];exact in3 hd⟩
 obtain ⟨r,RE,en⟩:=wG R
 obtain ⟨H,S,rfl,_,_⟩:=RE.fair (fun e=>nomatch e) (Nat.le_refl 2)
 have gr:=X3 (past:=mgP (a,b,c,d)) R en
 have gh:=Ud (past:=mgP (a,b,c,d)) R
 obtain ⟨ρ2,c2⟩:=wZ R.b (succ_pos 1) R.h9 R.h40
 have nq:∀ {H S},ym .NotEq (yT 2 H S) (yT 2 H S)=some false:=fun {H S}=>congrArg (Option.map (!·)) (wv (n:=5))
 show VW (X 74 (Tg (xU 14 mgR) (KA 14 mgR)) (mgV f (a,b,c,d) (tbT ([],0) []) none none none)) _
 rw [Tm 14 (Za (Ew f) hq)]
 refine zq false (x_p (jO (t:=bool false) (zJ (jN (x:=1) rfl rfl rfl rfl gr) (vf (ts:=[tII (mgT (a,b,c,d)).1]) rfl rfl rfl en) nq) rfl (zJ (jN (x:=1) rfl rfl rfl rfl gh) (zy (ts:=[tII (mgT (a,b,c,d)).1,int 2]) rfl rfl rfl c2) nq)) rfl) rfl (.ok ?_)
 show VW (X 74 (Tg (xU 12 GX) (KA 12 GX)) (mgS f (a,b,c,d) none)) _
 rw [Tm 12 (Za (Ev f) hq)]
 obtain ⟨ρ3,c3⟩:=gr
 refine z8 (t:=bool true) (yk ((ki rfl).trans (zF (ts:=[tbT (mgT (a,b,c,d)) (mgP (a,b,c,d))]) rfl rfl rfl c3)) (vf (ts:=[tII (mgT (a,b,c,d)).1]) rfl rfl rfl en) (wv (n:=5))) rfl rfl rfl
theorem EA {k n:Nat} (h:k<n):k+(n-(k+1))=n-1:=by rw [Nat.add_comm k 1,<- Nat.sub_sub,Nat.add_sub_cancel' (Nat.le_sub_one_of_lt h)]
theorem UI {d:kU} {s:RG} (R:Okr s) (h:y0 d s=none):Okr (next d s):=by
 cases d with
 |back=>exact R
 |come ts =>
  have h:(if s.1.length<9 then zU s.2 ts else some 2)=none:=h
  by_cases q:s.1.length<9
  ·rw [if_pos q] at h
   obtain ⟨l,f⟩:=qZ h
   obtain ⟨xs,rfl,hx⟩:=qv f
   show Okr (s.1++[(xs.map int).map toI],s.2)
   rw [kX]
   rw [length_map] at l
   refine ⟨⟨rfl,fun r hr=>?_⟩,?_,R.h40⟩
   ·rcases mem_append.mp hr with hr | hr
    ·exact R.b.row r hr
    ·rw [mem_singleton.mp hr];exact ⟨l,hx⟩
   ·show (s.1++[xs]).length<=9
    rw [length_append];exact q
  ·rw [if_neg q] at h;cases h
 |leave t =>
  refine ⟨⟨rfl,fun r hr=>R.b.row r (List.mem_of_mem_eraseIdx hr)⟩,?_,R.h40⟩
  exact Nat.le_trans (List.length_eraseIdx_le _ _) R.h9
 |put ts =>
  have h:(if s.2<40 then zU s.1.length ts else some 2)=none:=h
  by_cases q:s.2<40
  ·rw [if_pos q] at h
   obtain ⟨l,f⟩:=qZ h
   obtain ⟨xs,rfl,hx⟩:=qv f
   show Okr (v4 s.1 ((xs.map int).map toI),s.2+1)
   rw [kX]
   refine ⟨⟨rfl,fun r hr=>?_⟩,?_,q⟩
   ·obtain ⟨⟨r0,x⟩,hp,rfl⟩:=mem_map.mp hr
    have m:=List.of_mem_zip hp
    have b:=R.b.row r0 m.1
    refine ⟨by rw [length_append,b.1];rfl,fun y hy=>?_⟩
    rcases mem_append.mp hy with hy | hy
    ·exact b.2 y hy
    ·rw [mem_singleton.mp hy];exact hx x m.2
   ·show (v4 s.1 xs).length<=9
    rw [v4,length_map,length_zip];exact Nat.le_trans (min_le_left _ _) R.h9
  ·rw [if_neg q] at h;cases h
 |take t =>
  have h:cond (yc s.2 t) none (some 7)=none:=h
  cases q:yc s.2 t with
  |false=>rw [q] at h;cases h
  |true =>
   obtain ⟨k,hk,rfl⟩:=jA q
   refine ⟨⟨rfl,fun r hr=>?_⟩,?_,Nat.le_trans (sub_le _ _) R.h40⟩
   ·obtain ⟨r0,h0,rfl⟩:=mem_map.mp hr
    have b:=R.b.row r0 h0
    refine ⟨?_,fun y hy=>?_⟩
    ·show (r0.take k++r0.drop (k+1)).length=s.2-1
     rw [length_append,length_take,length_drop,b.1,min_eq_left (Nat.le_of_lt hk)];exact EA hk
    ·exact b.2 y ((mem_append.mp hy).elim mem_of_mem_take List.mem_of_mem_drop)
   ·show (s.1.map (kr k)).length<=9
    rw [length_map];exact R.h9
 |bid t u v =>
  have h:cond (yc s.1.length t) (cond (yc s.2 u) (cond (zX v) none (some 4)) (some 7)) (some 6)=none:=h
  cases q3:zX v with
  |false=>rw [q3] at h;revert h;cases yc s.1.length t <;> cases yc s.2 u <;> exact fun h=>nomatch h
  |true =>
   obtain ⟨x,rfl,hx⟩:=wj q3
   refine ⟨⟨rfl,fun r hr=>?_⟩,?_,R.h40⟩
   ·obtain ⟨i,hi,rfl⟩:=List.mem_iff_getElem.mp (show r∈s.1.modify _ _ from hr)
    rw [List.getElem_modify]
    have b:=R.b.row _ (getElem_mem (by rw [length_modify] at hi;exact hi))
    by_cases e:(toI t).toNat=i
    ·rw [if_pos e]
     refine ⟨by rw [length_set];exact b.1,fun y hy=>?_⟩
     rcases List.mem_or_eq_of_mem_set hy with hy | rfl
     ·exact b.2 y hy
     ·exact hx
    ·rw [if_neg e];exact b
   ·show (s.1.modify _ _).length<=9
    rw [length_modify];exact R.h9
section
variable {f:Nat} {ρ ρ':VS} {Q:VF->VS->Prop}
theorem Ga {a:za} {t:Tr} {b:Bool} (h:EX f a ρ=.ok t ρ') (ht:zd t=some b):EX f (.un .Not a) ρ=.ok (bool !b) ρ':=by
 show (EX f a ρ).bind _=_
 rw [h]
 show (xz t).on ρ'=_
 unfold xz;rw [ht];rfl
theorem Hk {c:za} {a e r:zk} {t:Tr} (b:Bool) (hc:EX f c ρ=.ok t ρ') (ht:zd t=some b) (k:VW (X f (cond b a e) ρ') (Nx f r Q)):VW (X f (.cons (.ifs c a e) r) ρ) Q:=by
 refine yJ ?_
 show VW (((EX f c ρ).bind fun t ρ=>(Ex.opt (zd t)).on ρ).bind _) _
 rw [hc]
 show VW (((Ex.opt (zd t)).on ρ').bind _) _
 rw [ht]
 cases b with
 |true=>exact k
 |false=>exact k
end
noncomputable def roT (xs:List Int):Tr:=.nd .ro (xs.map int)
noncomputable def base (a b:Int):List RG:=[([],0),([],1),([],2),([[a,b]],2)]
noncomputable def LV (xs:List Int) (f:Int) (B:List RG) (s:RG) (past:List RG) (hs:List Tr) (o7 o8 o9:Option Tr):VS:=[some (roT xs),some (.nd .lst (hs.map pT2)),some (tbT s (B++past)),some (int f),some (tII s.1),some (int s.2),some (.nd .lst (past.map prT)),o7,o8,o9,none,none]
section
variable {xs:List Int} {f:Int} {B:List RG} {s:RG} {past:List RG} {hs:List Tr} {o7 o8 o9:Option Tr}
noncomputable def lb1:zk:=(.cons (.ifs (.un .Not (.call 75 (.cons (.loc 2) (.cons (.loc 4) (.cons (.loc 5) (.cons (.loc 1) .nil))))))
 (.cons (.ret (.const (.bool false)))
 .nil)
 .nil)
 (.cons (.ifs (.and (.cmp .Eq (.loc 7) (.bin .FloorDiv (.bi .len (.cons (.loc 0) .nil)) (.const (.int 2)))) (.un .Not (.call 73 (.cons (.loc 2) (.cons (.loc 4) (.cons (.loc 5) (.cons (.cmp .Eq (.bin .Mod (.bin .FloorDiv (.loc 3) (.const (.int 625))) (.const (.int 2))) (.const (.int 1))) .nil)))))))
 (.cons (.ret (.const (.bool false)))
 .nil)
 .nil)
 .nil))
theorem Xi {n k:Nat} {P:VF->VS->Prop} (R:Okr s) (L:Hl hs n) (l:n<=500) (q:∀ hs',Hl hs' (n+2)->P .next (LV xs f B s past hs' (some (int k)) o8 o9)):VW (X 78 lb1 (LV xs f B s past hs (some (int k)) o8 o9)) P:=by
 obtain ⟨hs',ρ,e,e3,L'⟩:=U1 (past:=B++past) R L l
 obtain ⟨ρ2,c2⟩:=WB (past:=B++past) (b:=f / 625%2==1) R
 refine Hk (ρ':=LV xs f B s past hs' (some (int k)) o8 o9) (t:=bool false) false (Ga (t:=bool true) (b:=true) ((zF (ts:=[tbT s (B++past),tII s.1,int s.2,.nd .lst (hs.map pT2)]) rfl rfl rfl e).trans ?_) rfl) rfl (.ok ?_)
 ·show VR.ok (bool true) [some (roT xs),ρ.getD 3 none,some (tbT s (B++past)),some (int f),some (tII s.1),some (int s.2),some (.nd .lst (past.map prT)),some (int k),o8,o9,none,none]=_
  rw [e3];rfl
 ·refine zq false (x_p (wS (x:=(k:Int)==(xs.length:Int) / 2) (y:=false) (zJ (x:=int k) rfl (zN (x:=int xs.length) (y:=int 2) ?_ rfl rfl) rfl) (ji (b:=true) (zy (ts:=[tbT s (B++past),tII s.1,int s.2,bool (f / 625%2==1)]) rfl rfl rfl c2) rfl)) rfl) (by rw [Bool.and_false];rfl) (.ok (q hs' L'))
  show Ex.ok (int ((xs.map int).length:Nat))=_
  rw [length_map]
structure LI (xs:List Int) (f:Int) (B:List RG) (m:Nat) (ρ:VS):Prop where
 get:∃ s past hs o7 o8 o9,ρ=LV xs f B s past hs o7 o8 o9/\Okr s/\(∀ z∈past,Okr z)/\past.length<=m/\Hl hs (2*m)
noncomputable def lb3:zk:=(.cons (.ifs (.and (.cmp .NotEq (.sub (.loc 8) (.const (.int 0))) (.const (.str [98,97,99,107]))) (.cmp .Eq (.loc 9) (.const (.str []))))
 (.cons (.expr (.meth .append (.loc 6) (.cons (.tup (.cons (.loc 4) (.cons (.loc 5) .nil))) .nil)))
 (.cons (.assign 4 (.call 64 (.cons (.loc 8) (.cons (.loc 4) .nil))))
 (.cons (.assign 5 (.bin .Sub (.bin .Add (.loc 5) (.bi .int (.cons (.cmp .Eq (.sub (.loc 8) (.const (.int 0))) (.const (.str [112,117,116]))) .nil))) (.bi .int (.cons (.cmp .Eq (.sub (.loc 8) (.const (.int 0))) (.const (.str [116,97,107,101]))) .nil))))
 .nil)))
 .nil)
 lb1)
noncomputable def lb2:zk:=(.cons (.ifs (.or (.cmp .NotEq (.sub (.loc 8) (.const (.int 0))) (.const (.str [98,97,99,107]))) (.cmp .NotEq (.loc 6) (.lst .nil)))
 (.cons (.expr (.call 31 (.cons (.loc 2) (.cons (.loc 8) .nil))))
 .nil)
 .nil)
 (.cons (.ifs (.and (.cmp .Eq (.sub (.loc 8) (.const (.int 0))) (.const (.str [98,97,99,107]))) (.cmp .NotEq (.loc 6) (.lst .nil)))
 (.cons (.atup [4,5] (.meth .pop (.loc 6) .nil))
 .nil)
 .nil)
 lb3))
noncomputable def lb0:zk:=(.cons (.assign 8 (.call 63 (.cons (.sub (.loc 0) (.loc 7)) (.cons (.loc 4) (.cons (.loc 5) .nil)))))
 (.cons (.assign 9 (.call 39 (.cons (.loc 8) (.cons (.loc 4) (.cons (.loc 5) .nil)))))
 lb2))
noncomputable def LVt (xs:List Int) (f:Int) (tb:Tr) (s:RG) (past:List RG) (hs:List Tr) (k:Nat) (d:Tr) (w:List Nat):VS:=[some (roT xs),some (.nd .lst (hs.map pT2)),some tb,some (int f),some (tII s.1),some (int s.2),some (.nd .lst (past.map prT)),some (int k),some d,some (sT w),none,none]
theorem Jn {p:Prop} [Decidable p] {x y:List Nat} (hx:(x==[])=false) (hy:(y==[])=false):((if p then x else y)==[])=false:=by
 by_cases h:p
 ·rw [if_pos h];exact hx
 ·rw [if_neg h];exact hy
theorem ZF {o:Option Nat}:(kQ o==[])=o.isNone:=by
 cases o with
 |none=>rfl
 |some c=>exact Jn rfl (Jn rfl (Jn rfl (Jn rfl rfl)))
noncomputable def D8 (d:kU):Int:=match d with | .put _=>1 | _=>0
noncomputable def D7 (d:kU):Int:=match d with | .take _=>1 | _=>0
theorem GV {d:kU} (h:y0 d s=none):((next d s).2:Int)=s.2+D8 d-D7 d:=by
 cases d with
 |put ts=>exact (Int.sub_zero _).symm
 |take t =>
  have h:cond (yc s.2 t) none (some 7)=none:=h
  cases q:yc s.2 t with
  |false=>rw [q] at h;cases h
  |true=>obtain ⟨k,hk,_⟩:=jA q;show ((s.2-1:Nat):Int)=s.2+0-1;(exact HR hk)
 | _=>show (s.2:Int)=s.2+0-0;(first | exact HQ | omega)
theorem Ao {d:kU} {hs:List Tr} {k:Nat} {w:List Nat} {tb:Tr}:EP 78 (.bin .Sub (.bin .Add (.loc 5) (.bi .int (.cons (.cmp .Eq (.sub (.loc 8) (.const (.int 0))) (.const (.str [112,117,116]))) .nil))) (.bi .int (.cons (.cmp .Eq (.sub (.loc 8) (.const (.int 0))) (.const (.str [116,97,107,101]))) .nil))) ((LVt xs f tb s past hs k (dT d) w).set 4 o7)=.ok (int (s.2+D8 d-D7 d)):=by
 cases d <;> rfl
theorem Xp {d:kU} {n k:Nat} {P:VF->VS->Prop} (R:Okr s) (ok:okD d=true) (nb:d≠.back) (lb:B.length+past.length<=900) (q:∀ s' past' ρ,ρ=LV xs f B s' past' hs (some (int k)) (some (dT d)) (some (sT (kQ (y0 d s))))->Okr s'->(∀ z∈past',z∈past\/z=s)->past'.length<=past.length+1->VW (X 78 lb1 ρ) P) :
  VW (X 78 lb2 (LVt xs f (tbT s (B++past)) s past hs k (dT d) (kQ (y0 d s)))) P:=by
 have lbp:(B++past).length<=1000:=by rw [length_append];(exact HP lb)
 obtain ⟨v,t⟩:=Ub (past:=B++past) R lbp ok nb
 have e0:∀ {tb w},EP 78 (.cmp .NotEq (.sub (.loc 8) (.const (.int 0))) (.const (.str [98,97,99,107]))) (LVt xs f tb s past hs k (dT d) w)=.ok (bool true):=fun {tb w}=>by
  cases d with
  |back=>exact absurd rfl nb
  | _=>rfl
 have e1:∀ {tb w},EP 78 (.cmp .Eq (.sub (.loc 8) (.const (.int 0))) (.const (.str [98,97,99,107]))) (LVt xs f tb s past hs k (dT d) w)=.ok (bool false):=fun {tb w}=>by
  cases d with
  |back=>exact absurd rfl nb
  | _=>rfl
 refine zq true (x_p (Ky e0 rfl) rfl) rfl (yU (yA (ts:=[tbT s (B++past),dT d]) (fun o=>[some (roT xs),some (.nd .lst (hs.map pT2)),o,some (int f),some (tII s.1),some (int s.2),some (.nd .lst (past.map prT)),some (int k),some (dT d),some (sT (kQ (y0 d s))),none,none]) rfl rfl rfl (fun _=>rfl) t) ?_)
 refine zq false (x_p (vD (e1 (tb:=step d s (B++past))) rfl) rfl) rfl (.ok ?_)
 refine zq (kQ (y0 d s)==[]) (x_p (zW e0 rfl (zJ (x:=sT (kQ (y0 d s))) (y:=sT []) rfl rfl rfl)) rfl) rfl ?_
 rw [ZF]
 cases h:y0 d s with
 |some c =>
  rw [yy h]
  exact .ok (q s past _ (by rw [h];rfl) R (fun z hz=>.inl hz) (le_succ _))
 |none =>
  obtain ⟨ρb,cb⟩:=XD R h nb
  rw [qW h]
  refine yU (ρ':=LVt xs f (tbT (next d s) (B++past++[s])) s (past++[s]) hs k (dT d) []) ((jT (xq:=(6,[])) (us:=past.map prT) (w:=(nn,(past++[s]).map prT)) rfl rfl rfl (as:=[prT s]) rfl ?_).trans rfl) ?_
  ·rw [map_append]
   exact xH rfl (by rw [length_map];(exact HO lb))
  refine vo (zF (ts:=[dT d,tII s.1]) rfl rfl rfl cb) rfl rfl ?_
  refine yn (Ao (d:=d) (s:=s) (past:=past++[s]) (o7:=some (tII (next d s).1)) (tb:=tbT (next d s) (B++past++[s])) (hs:=hs) (k:=k) (w:=[])) rfl rfl rfl ?_
  refine q (next d s) (past++[s]) _ ?_ (UI R h) (fun z hz=>(mem_append.mp hz).imp id mem_singleton.mp) (by rw [length_append];exact Nat.le_refl _)
  rw [<- GV h,h,LV,<- append_assoc];rfl
end
section
variable {xs:List Int} {f:Int} {B:List RG} {s:RG} {past:List RG} {hs:List Tr} {o7 o8 o9:Option Tr}
theorem XF {k:Nat} {w:List Nat} {P:VF->VS->Prop} (R:Okr s) (ro:∀ z∈past,Okr z) (q:∀ s' past' ρ,ρ=LV xs f B s' past' hs (some (int k)) (some (dT .back)) (some (sT w))->Okr s'->(∀ z∈past',z∈past\/z=s)->past'.length<=past.length+1->VW (X 78 lb1 ρ) P) :
  VW (X 78 lb2 (LVt xs f (tbT s (B++past)) s past hs k (dT .back) w)) P:=by
 rcases List.eq_nil_or_concat past with e | ⟨past',s',e⟩
 ·subst e
  refine zq (t:=bool false) false rfl rfl (.ok ?_)
  refine zq (t:=bool false) false rfl rfl (.ok ?_)
  refine zq (t:=bool false) false rfl rfl (.ok ?_)
  exact q s [] _ rfl R (fun z hz=>nomatch hz) (zero_le _)
 ·rw [List.concat_eq_append] at e
  subst e
  obtain ⟨v,t⟩:=WU (s:=s) (past:=B++past') (s':=s')
  rw [append_assoc] at t
  have ne:∀ {tb s0},EP 78 (.cmp .NotEq (.loc 6) (.lst .nil)) (LVt xs f tb s0 (past'++[s']) hs k (dT .back) w)=.ok (bool true):=fun {tb s0}=>zJ (op:=.NotEq) (c:=true) (x:=.nd .lst ((past'++[s']).map prT)) (y:=.nd .lst []) rfl rfl (congrArg (Option.map (!·)) (wR.trans (congrArg some (isEmpty_eq_false_iff.mpr (List.append_ne_nil_of_right_ne_nil past' (List.cons_ne_nil s' []))))))
  refine zq true (x_p (jO (t:=bool false) rfl rfl ne) rfl) rfl (yU (yA (ts:=[tbT s (B++(past'++[s'])),dT .back]) (fun o=>[some (roT xs),some (.nd .lst (hs.map pT2)),o,some (int f),some (tII s.1),some (int s.2),some (.nd .lst ((past'++[s']).map prT)),some (int k),some (dT .back),some (sT w),none,none]) rfl rfl rfl (fun _=>rfl) t) ?_)
  refine zq true (x_p (zW (t:=bool true) rfl rfl (ne (tb:=tbT s' (B++past')))) rfl) rfl ?_
  refine XQ (us:=[tII s'.1,int s'.2]) (jT (xq:=(6,[])) (us:=(past'++[s']).map prT) (w:=(prT s',past'.map prT)) rfl rfl rfl (as:=[]) rfl ?_) rfl rfl ?_
  ·show ((past'++[s']).map prT).getLast?.map (fun t=>(t,((past'++[s']).map prT).dropLast))=_
   rw [map_append]
   show (past'.map prT++[prT s']).getLast?.map (fun t=>(t,(past'.map prT++[prT s']).dropLast))=_
   rw [List.getLast?_concat,List.dropLast_concat];rfl
  ·refine zq (t:=bool false) false rfl rfl (.ok ?_)
   exact q s' past' _ rfl (ro s' (mem_append.mpr (.inr (.head _)))) (fun z hz=>.inl (mem_append.mpr (.inl hz))) (by rw [length_append];(first | exact DO | omega))
theorem Gl {m:Nat} (h:m<xs.length):vz (roT xs) (int m)=some (int (xs.getD m 0)):=by
 show ((yX (m:Int) (xs.map int).length).bind fun j=>(xs.map int)[j]?)=_
 rw [length_map,ju h]
 show (xs.map int)[m]?=_
 rw [getElem?_map,yt h (d:=0)];rfl
theorem Ua {m:Nat} {ρ:VS} (lB:B.length=4) (hm:m<xs.length) (hl:xs.length<=63) (I:LI xs f B m ρ) {P:VF->VS->Prop} (k:∀ ρ,LI xs f B (m+1) ρ->P .next ρ):VW (X 78 lb0 (ρ.set 7 (some (int m)))) P:=by
 obtain ⟨s,past,hs,o7,o8,o9,rfl,R,ro,lp,L⟩:=I.get
 obtain ⟨d,ok,ρd,cd⟩:=U4 R (c:=xs.getD m 0)
 obtain ⟨ρu,cu⟩:=G7 R ok
 refine vo (zF (ts:=[int (xs.getD m 0),tII s.1,int s.2]) (es3 (zB (x:=roT xs) (y:=int m) rfl rfl (Gl hm)) rfl rfl) rfl rfl cd) rfl rfl ?_
 refine vo (zF (ts:=[dT d,tII s.1,int s.2]) rfl rfl rfl cu) rfl rfl ?_
 have fin:∀ s' past' ρ,ρ=LV xs f B s' past' hs (some (int m)) (some (dT d)) (some (sT (kQ (y0 d s))))->Okr s'->(∀ z∈past',z∈past\/z=s)->past'.length<=past.length+1->VW (X 78 lb1 ρ) P:=fun s' past' ρ e R' hz l=>by
  rw [e]
  exact Xi R' L (by exact HN hm hl) fun hs' L'=>k _ ⟨s',past',hs',_,_,_,rfl,R',fun z h=>(hz z h).elim (ro z) fun e=>e▸R,by exact DF lp l,L'⟩
 by_cases nb:d=.back
 ·subst nb;exact XF R ro fin
 ·exact Xp (n:=0) R ok nb (by exact HM lB hm hl lp) fin
end
theorem Zf {xs:List Int} {f:Int} {B:List RG} {ρ:VS} {n:Nat} (I:LI xs f B n ρ):VW (X 78 (.cons (.fors (.loc 7) (.irange (.const (.int 4))) (.cons (.ifs (.un .Not (.call 73 (.cons (.loc 2) (.cons (.loc 4) (.cons (.loc 5) (.cons (.cmp .Eq (.bin .Mod (.loc 7) (.const (.int 2))) (.const (.int 1))) .nil)))))) (.cons (.ret (.const (.bool false))) .nil) .nil) .nil)) (.cons (.ret (.and (.cmp .Eq (.compp (.const (.int 1)) 10 11 (.loc 1) (.cmp .NotEq (.loc 10) (.loc 11))) (.lst .nil)) (.call 74 (.cons (.loc 3) .nil)))) .nil)) ρ) (Rt fun r _=>r=bool true):=by
 obtain ⟨s,past,hs,o7,o8,o9,rfl,R,ro,lp,L⟩:=I.get
 refine yI (Jq (x:=int 4) rfl (jV (n:=4) (by decide))) rfl ?_
 refine qm _ (fun _ ρ=>∃ o7,ρ=LV xs f B s past hs o7 o8 o9) (fun k ρ hk z=>?_) (fun ρ z=>?_) ⟨o7,rfl⟩
 ·obtain ⟨o7,rfl⟩:=z
  obtain ⟨ρ2,c2⟩:=WB (past:=B++past) (b:=(k:Int)%2==1) R
  exact zq false (w7 (t:=bool true) (b:=true) (zF (ts:=[tbT s (B++past),tII s.1,int s.2,bool ((k:Int)%2==1)]) rfl rfl rfl c2) rfl) rfl (.ok ⟨_,rfl⟩)
 ·obtain ⟨o7,rfl⟩:=z
  obtain ⟨ρ3,c3⟩:=UR (f:=f)
  have pr:∀ {us:List Tr},jy (us.map pT2)=some (us.map fun t=>(t,t)):=fun {us}=>by
   induction us with
   |nil=>rfl
   |cons t us ih =>
    show (jy (us.map pT2)).map _=_
    rw [ih];rfl
  have e:EP 78 (.compp (.const (.int 1)) 10 11 (.loc 1) (.cmp .NotEq (.loc 10) (.loc 11))) (LV xs f B s past hs o7 o8 o9)=.ok (.nd .lst []):=by
   show (((Ex.opt (jy (hs.map pT2))).bind fun ps=>yl _ (fun p:Tr × Tr=>yW (EP 78 (.cmp .NotEq (.loc 10) (.loc 11))) (EP 78 (.const (.int 1))) (((LV xs f B s past hs o7 o8 o9).set 10 (some p.1)).set 11 (some p.2))) ps).bind mkL)=_
   rw [pr]
   show (yl _ _ (hs.map fun t=>(t,t))).bind mkL=_
   have z:∀ us:List Tr,(∀ t∈us,tEq 8 t t=some true)->yl (cls (sg 78).sh (.const (.int 1))) (fun p:Tr × Tr=>yW (EP 78 (.cmp .NotEq (.loc 10) (.loc 11))) (EP 78 (.const (.int 1))) (((LV xs f B s past hs o7 o8 o9).set 10 (some p.1)).set 11 (some p.2))) (us.map fun t=>(t,t))=.ok []:=by
    intro us
    induction us with
    |nil=>exact fun _=>rfl
    |cons t us ih =>
     intro h
     have e:EP 78 (.cmp .NotEq (.loc 10) (.loc 11)) (((LV xs f B s past hs o7 o8 o9).set 10 (some t)).set 11 (some t))=.ok (bool false):=zJ (x:=t) (y:=t) rfl rfl (congrArg (Option.map (!·)) (h t (.head _)))
     show ((EP 78 (.cmp .NotEq (.loc 10) (.loc 11)) (((LV xs f B s past hs o7 o8 o9).set 10 (some t)).set 11 (some t))).bind _).bind _=_
     rw [e]
     exact ih fun u hu=>h u (.tail _ hu)
   rw [z hs L.eq];rfl
  exact z8 (t:=bool true) (x_p (zW (t:=bool true) (zJ e (y:=.nd .lst []) rfl rfl) rfl (zy (ts:=[int f]) rfl rfl rfl c3)) rfl) rfl rfl rfl
theorem UP {c:Int}:0<=c%5/\c%5<=1000000000000:=⟨emod_nonneg c (by decide),Int.le_trans (Int.le_of_lt (emod_lt_of_pos c (by decide))) (by decide)⟩
theorem Ja {n:Nat} (h:n<=40):Okr ([],n):=⟨⟨rfl,fun _ h=>nomatch h⟩,zero_le _,h⟩
theorem Uy {a b:Int} (ha:0<=a/\a<=1000000000000) (hb:0<=b/\b<=1000000000000):([a,b]:List Int).length=2/\∀ x ∈ [a,b],0<=x/\x<=1000000000000:=⟨rfl,fun x hx=>(mem_cons.mp hx).elim (fun e=>e▸ha) fun hx=>by rw [mem_singleton.mp hx];exact hb⟩
theorem Ay {a b:Int} (ha:0<=a/\a<=1000000000000) (hb:0<=b/\b<=1000000000000):zU 2 (([a,b]:List Int).map int)=none:=by
 unfold zU
 rw [KV (Uy ha hb).2];rfl
noncomputable def I0' (xs:List Int) (f:Int) (rows:List (List Int)) (o:Option Tr):VS:=[some (roT xs),some (.nd .lst []),o,some (int f),some (tII rows),none,none,none,none,none,none,none]
noncomputable abbrev I0 (xs:List Int) (f:Int) (rows:List (List Int)) (tb:Tr):VS:=I0' xs f rows (some tb)
theorem run_ok {xs:List Int} (hl:xs.length<=63):zL 78 [roT xs] (bool true):=by
 refine yo (zS (d:=TY) rfl rfl rfl rfl rfl ?_)
 obtain ⟨f,ρc,c⟩:=U9 (xs:=xs)
 have ha:=UP (c:=f)
 have hb:=UP (c:=f / 5)
 have hc:=UP (c:=f / 25)
 have hd:=UP (c:=f / 125)
 refine jE (x:=1) (t:=.nd .lst []) rfl rfl ?_
 refine jE (x:=2) (t:=tbT ([],0) []) (by kernel_rfl) rfl ?_
 refine vo (zF (ts:=[roT xs,int 0]) rfl rfl rfl c) rfl rfl ?_
 refine yn (t:=tII [[f%5,f / 5%5],[f / 25%5,f / 125%5]]) rfl rfl rfl rfl ?_
 generalize f%5=a at *
 generalize f / 5%5=b at *
 generalize f / 25%5=c at *
 generalize f / 125%5=d at *
 have R1:Okr ([[a,b]],2):=⟨⟨rfl,fun r hr=>by rw [mem_singleton.mp hr];exact Uy ha hb⟩,le_of_ble_eq_true rfl,le_of_ble_eq_true rfl⟩
 have R2:Okr ([[a,b],[c,d]],2):=⟨⟨rfl,fun r hr=>(mem_cons.mp hr).elim (fun e=>e▸Uy ha hb) fun hr=>by rw [mem_singleton.mp hr];exact Uy hc hd⟩,le_of_ble_eq_true rfl,le_of_ble_eq_true rfl⟩
 have go:∀ {tb tb':Tr} {n:Nat} {e:za} {t:Tr} {r:zk} {Q:VF->VS->Prop},vd tb=true->EX 78 (.call n (.cons (.loc 2) (.cons e .nil))) (I0 xs f [[a,b],[c,d]] tb)=.ok t (I0 xs f [[a,b],[c,d]] tb')->Nr 78 r Q (I0 xs f [[a,b],[c,d]] tb')->VW (X 78 (.cons (.expr (.mcall n (.loc 2) (.cons e .nil))) r) (I0 xs f [[a,b],[c,d]] tb)) Q:=fun {tb} {_} {_} {_} {_} {_} {_} hi h k=>yU ((ki (show jZ (.loc 2) (I0 xs f [[a,b],[c,d]] tb)=true from hi)).trans h) k
 refine go rfl (yA (ts:=[tbT ([],0) [],tI []]) (I0' xs f [[a,b],[c,d]]) rfl rfl rfl (fun _=>rfl) (ue (Ja (by decide)) (by decide) rfl (by decide))) ?_
 refine go rfl (yA (ts:=[tbT ([],1) [([],0)],tI []]) (I0' xs f [[a,b],[c,d]]) rfl rfl rfl (fun _=>rfl) (ue (Ja (by decide)) (by decide) rfl (by decide))) ?_
 refine go rfl (yA (ts:=[tbT ([],2) [([],0),([],1)],tI [a,b]]) (I0' xs f [[a,b],[c,d]]) rfl rfl rfl (fun _=>rfl) (wW (Ja (by decide)) (by decide) (Ay ha hb) (by decide))) ?_
 refine go rfl (yA (ts:=[tbT ([[a,b]],2) [([],0),([],1),([],2)],tI [c,d]]) (I0' xs f [[a,b],[c,d]]) rfl rfl rfl (fun _=>rfl) (wW R1 (le_of_ble_eq_true rfl) (Ay hc hd) (le_of_ble_eq_true rfl))) ?_
 refine yn (t:=int 2) rfl rfl rfl rfl ?_
 refine jE (x:=6) (t:=.nd .lst []) rfl rfl ?_
 have rg:EI 78 (.irange2 (.const (.int 1)) (.bi .len (.cons (.loc 0) .nil))) (LV xs f (base a b) ([[a,b],[c,d]],2) [] [] none none none)=.ok (yh 1 (xs.length-1)):=U0 (x:=int 1) (y:=int xs.length) rfl (by show Ex.ok (int ((xs.map int).length:Nat))=_;rw [length_map]) (by rw [K5,if_pos (Ys (by omega)),show ((xs.length:Int)-1).toNat=xs.length-1 by (first | exact HL | omega)])
 refine yI rg rfl ?_
 have I1:LI xs f (base a b) 1 (LV xs f (base a b) ([[a,b],[c,d]],2) [] [] none none none):=⟨_,_,_,_,_,_,rfl,R2,fun _ h=>(nomatch h),zero_le _,fun _ h=>(nomatch h),zero_le _⟩
 refine qR (fun m ρ=>1<=m/\LI xs f (base a b) m ρ) (n:=1+(xs.length-1)) (fun m ρ hm I=>?_) (fun ρ I=>Zf I.2) (xs.length-1) 1 _ rfl ⟨Nat.le_refl 1,I1⟩
 exact Ua rfl (by have:=I.1;(exact HK hm this)) hl I.2 fun ρ I=>⟨le_add_left 1 m,I⟩
end Mine
namespace Mine
open PySem PySem.W PyProof.Rows PySem.Calls
noncomputable def looseV:List PySem.Str:=[PySem.Str.ofString "in_heaps_heaps",PySem.Str.ofString "in_rooms_rooms"]
noncomputable def qV:Program:=PySem.W.view PySem.Challenge.pw_uf030031_13 [1,2,3,4,5,6,7,9,10,11,12,13,14,15,16,18,20,21,22,24,25,26,28,29,31,33,34,35,36,37,38,39,40,41,42,43,44,45,46,47,48,49,50,51,52,53,54,55,56,57,58]
set_option maxRecDepth 100000
theorem ZT:∀ w:World,((boot_heap w.params).isNs mainGlobals&&(Array.mk []:Array GenState).size==0,(boot_heap w.params).objs.size,(boot_heap w.params).nsMap mainGlobals "__annotations__")=(true,11,some (.ref 6)):=by intro w;kernel_rfl
theorem saidV:OpenLaw.wellSaid PySem.Challenge.rw_uf030031_13=true:=by kernel_rfl
theorem leftV:LeftO PySem.Challenge.pw_uf030031_13 qV looseV (fun s=>xlAt Mine.qV [] s&&recOk (RowW.records (OpenRow.toRowW PySem.Challenge.rw_uf030031_13.row)) s) (Hook.obs (exHook exs)) (Hook.val (exHook exs)) 4000 :=
 Jm (by kernel_rfl) (by decide) (fun s=>by kernel_rfl) ZT (by intro w os;kernel_rfl)
end Mine
open PySem PySem.W PyProof.Rows
set_option maxRecDepth 100000 in
set_option maxHeartbeats 8000000 in
theorem PySem.Challenge.cw_uf030031_13_holds : PySem.Challenge.rw_uf030031_13.Holds := by
 w_on
 refine holds_law Mine.saidV fun said=>?_
 refine holds_open (q:=Mine.qV) (loose:=Mine.looseV) (Xt:=(fun s=>xlAt Mine.qV [] s&&recOk (RowW.records (OpenRow.toRowW PySem.Challenge.rw_uf030031_13.row)) s)) (XP:=XL Mine.qV []) (Yf:=Hook.obs (Mine.exHook Mine.exs)) (Ya:=Hook.val (Mine.exHook Mine.exs)) (YP:=Hook.says (Mine.exHook Mine.exs)) (N:=4000) Mine.leftV (Hook.of (Mine.exHook Mine.exs)) (Hook.keeps (Mine.exHook Mine.exs)) (fun s e=>xl_of s (and_eq_true_iff.mp e).1) XL.keeps (by rfl) (by rfl) (by rfl) (fun s e=>recFacts_of (and_eq_true_iff.mp e).2) (by rfl) (by first | assumption | decide +kernel) (by decide +kernel) ⟨rfl,rfl,rfl,rfl,rfl,by decide +kernel⟩ ?hw ?hc
 case hw=>w_witness2
 intro w s₀ s₁ mg mb G Y fa o pm cd doc dV kV ho hd hcd hD hmg hg args vals as hpre hlay hrd hwl hlo
 refine Ground.open G ?_
 intro T B D TE TW
 wrow_args hpre hlay hrd hwl hlo
 rename_i xs _ _ _ _ _ _ _ _ _ _ _ _ wl _ _ _ hc _
 have hl:xs.length<=63:=by omega
 obtain ⟨h,run⟩:=Mine.run_ok hl
 refine enter_call (Mine.law_ends T (cs:=Mine.exs) (nm:=Mine.nm) (F:=Mine.F) (Gs:=Mine.sg) (g:=Mine.gm) (f:=78) (W:=100) (k:=10) (by kernel_rfl) Y TE hg (by kernel_rfl) hmg wl (by decide) hl rfl run ?_ ?_)
 ·intro _;rfl
 ·wrow_post
