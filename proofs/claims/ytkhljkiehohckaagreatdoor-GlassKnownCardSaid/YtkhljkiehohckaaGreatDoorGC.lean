/- Layer 09: names, valid glasses (written by gen_gc.py). -/
import Derived.Test.YtkhljkiehohckaaGreatDoorGp
import Derived.Test.YtkhljkiehohckaaGreatDoorQa
namespace Go.Proofs.YtkhljkiehohckaaGreatDoor
open Go Go.RowKit Dig
theorem take_byte (t:ByteArray) (k:Nat) (h:k<t.size):t.data.toList.take (k+1)=t.data.toList.take k++[t[k]]:=by
  rw[List.take_succ_eq_append_getElem (by simpa using h)];rfl
set_option maxRecDepth 100000 in
set_option maxHeartbeats 4000000 in
theorem letter_any (w:World) (b:UInt8) :
    Calls Tryz.prog 42 #[.int .u8 (b.toNat:Int)] w fun e w'=>Below w.heap.size w w'∧e=.returned (.bool (letB b)):=by
  obtain⟨c,hc⟩:∃ c:Nat,b.toNat=c:=⟨_,rfl⟩;have hr:letB b=decide (65≤c∧c≤90∨97≤c∧c≤122∨48≤c∧c≤57∨c=45∨c=95):=by rw[← hc];rfl
  rw[hc,hr];clear hr hc;rcases(show c≤44∨c=45∨(46≤c∧c≤47)∨(48≤c∧c≤57)∨(58≤c∧c≤64)∨(65≤c∧c≤90)∨(91≤c∧c≤94)∨c=95∨c=96∨(97≤c∧c≤122)∨123≤c by omega) with h | h | h | h | h | h | h | h | h | h | h
  all_goals
    first
      | have k0:decide (65≤(c:Int))=true:=by rw[decide_eq_true_eq];omega
      | have k0:decide (65≤(c:Int))=false:=by rw[decide_eq_false_iff_not];omega
    first
      | have k1:decide ((c:Int)≤90)=true:=by rw[decide_eq_true_eq];omega
      | have k1:decide ((c:Int)≤90)=false:=by rw[decide_eq_false_iff_not];omega
    first
      | have k2:decide (97≤(c:Int))=true:=by rw[decide_eq_true_eq];omega
      | have k2:decide (97≤(c:Int))=false:=by rw[decide_eq_false_iff_not];omega
    first
      | have k3:decide ((c:Int)≤122)=true:=by rw[decide_eq_true_eq];omega
      | have k3:decide ((c:Int)≤122)=false:=by rw[decide_eq_false_iff_not];omega
    first
      | have k4:decide (48≤(c:Int))=true:=by rw[decide_eq_true_eq];omega
      | have k4:decide (48≤(c:Int))=false:=by rw[decide_eq_false_iff_not];omega
    first
      | have k5:decide ((c:Int)≤57)=true:=by rw[decide_eq_true_eq];omega
      | have k5:decide ((c:Int)≤57)=false:=by rw[decide_eq_false_iff_not];omega
    first
      | have k6:((c:Int)==45)=true:=by rw[beq_iff_eq];omega
      | have k6:((c:Int)==45)=false:=by rw[beq_eq_false_iff_ne];omega
    first
      | have k7:((c:Int)==95)=true:=by rw[beq_iff_eq];omega
      | have k7:((c:Int)==95)=false:=by rw[beq_eq_false_iff_ne];omega
    first | rw[decide_eq_true (p:=65≤c∧c≤90∨97≤c∧c≤122∨48≤c∧c≤57∨c=45∨c=95) (by omega)] | rw[decide_eq_false (p:=65≤c∧c≤90∨97≤c∧c≤122∨48≤c∧c≤57∨c=45∨c=95) (by omega)]
    clear h;have B0:=zz (Below.refl w.heap.size w);go_enter Tryz.func42,Tryz.ntmps42
    go_wp2;go_ret;exact⟨Below.refl _ _,rfl⟩
set_option maxRecDepth 100000 in
set_option maxHeartbeats 4000000 in
theorem Name_any (w:World) (s:ByteArray) (hs:s.size≤1000) :
    Calls Tryz.prog 20 #[.string s] w fun e w'=>Below w.heap.size w w'∧e=.returned (.bool (nmB s)):=by
  obtain⟨r,hr⟩:∃ r,r=nmB s:=⟨_,rfl⟩;rw[← hr];have HR:=zz hr;clear hr;go_enter Tryz.func20,Tryz.ntmps20
  go_wp2;go_loopw [6] (fun iv wr=>∃ k:Nat,iv=.int .i64 k∧k≤s.size∧Hid ((s.data.toList.take k).all letB=true)∧Hid (Below w.heap.size w wr)) (fun iv _=>s.size-(intOf iv).toNat)
  case atStart=>exact⟨0,rfl,Nat.zero_le _,zz (by rw[List.take_zero];rfl),zz (Below.refl _ _)⟩
  case round=>
    obtain⟨k,rfl,hk,HA,HB⟩:=hrel;have hs1:=hs;by_cases hlt:k<s.size
    · have hki:(k:Int)<(s.size:Int):=by omega
      have b0:(0:Int)≤(k:Int):=by omega
      have HS:=zz (take_byte s k hlt);go_wp2_with fail
      refine(letter_any _ _).mono ?_;rintro e w1 ⟨hb,rfl⟩;have a0:=zz (HB.out.trans (hb.mono HB.out.size));clear hb;rcases hb:letB s[k] with _ | _
      · have HF:=zz (show r=false by rw[HR.out];unfold nmB;rw[← List.take_append_drop (k+1) s.data.toList,List.all_append,HS.out,List.all_append];simp[hb])
        go_wp2;go_ret;exact⟨a0.out,by rw[HF.out];rfl⟩
      · have HT:=zz (show(s.data.toList.take (k+1)).all letB=true by rw[HS.out,List.all_append,HA.out];simp[hb])
        go_wp2;go_roundw
        case rel=>exact⟨k+1,by go_num,by omega,HT,a0⟩
        case measure=>simp[intOf];omega
    · obtain rfl:k=s.size:=by omega
      have HN:=zz (show r=decide (1≤s.size∧s.size≤16) by rw[HR.out];unfold nmB;have h:=HA.out;rw[List.take_of_length_le (by simp)] at h;rw[h,Bool.true_and]);clear hk;rcases(show s.size=0∨(1≤s.size∧s.size≤16)∨16<s.size by omega) with h | h | h
      all_goals
        first
          | have k0:decide (1≤(s.size:Int))=true:=by rw[decide_eq_true_eq];omega
          | have k0:decide (1≤(s.size:Int))=false:=by rw[decide_eq_false_iff_not];omega
        first
          | have k1:decide ((s.size:Int)≤16)=true:=by rw[decide_eq_true_eq];omega
          | have k1:decide ((s.size:Int)≤16)=false:=by rw[decide_eq_false_iff_not];omega
        first | have HQ:=zz (HN.out.trans (decide_eq_true (by omega))) | have HQ:=zz (HN.out.trans (decide_eq_false (by omega)))
        clear h;go_wp2;go_ret;exact⟨HB.out,by rw[HQ.out];rfl⟩
end Go.Proofs.YtkhljkiehohckaaGreatDoor
