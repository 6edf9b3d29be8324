/-
  Numbers of so many bytes: little, LittleOf, SignedOf, SignedAt and the helpers' Little, LittleAt.
  Strings: Patched, PaddedTo; the helpers' Patch, Zeros; the reference's PatchErr, Padded.
-/
import Derived.Test.YtcfdpfmchchkaaaGreatDoorOpA
import Derived.Test.YtcfdpfmchchkaaaGreatDoorShC
namespace Go.Proofs.YtcfdpfmchchkaaaGreatDoor
set_option linter.unusedVariables false
set_option linter.unusedSimpArgs false
open Go.RowKit
theorem uy:(Tryz.prog.info? 5).map (fun i=>(i.zero,i.size,i.bytes))=some (some (.int .u8 0),1,1):=by kernel_rfl
theorem yW (w:World) (g cap n:Nat) (l:List UInt8) (hn:n=l.length) (hc:∀j (hj:j<l.length),w.cell? ⟨g,j,none⟩=some (bb l[j])) :
 (convert 126 9 (.slice (some ⟨g,0,none⟩) n cap)).run Tryz.prog w=.ok (.string (bs l)) w:=by
 subst hn
 have hc':∀j (hj:j<l.length),w.cell? ((⟨g,0,none⟩:Addr).add j)=some (.int .u8 (l[j].toNat:Int)):=fun j hj=>by
  have:(⟨g,0,none⟩:Addr).add j=⟨g,j,none⟩:=by unfold Addr.add;split<;>simp_all
  rw[this];exact hc j hj
 exact run_convert_bytes_back (P:=Tryz.prog) w 126 9 5 ⟨g,0,none⟩ cap l Tryz.underlying126 Tryz.underlying5 Tryz.underlying9 hc'
theorem rz {w:World} {base n:Nat} {v:Value} {l:List UInt8} (h:w.ownsRow base 5 1 v n (l.map bb)) :
 (convert 126 9 v).run Tryz.prog w=.ok (.string (bs l)) w:=by
 have hl:=h.1;simp only[List.length_map,Nat.mul_one] at hl;rcases h.2 with ⟨rfl,h0⟩ | ⟨g,cap,cur,rfl,_⟩
 · have:l=[]:=List.eq_nil_of_length_eq_zero ab
   subst this;exact run_convert_bytes_nil (P:=Tryz.prog) w 126 5 Tryz.underlying126 Tryz.underlying5 0 0 9 Tryz.underlying9
 · refine yW w g cap n l hl.symm fun j hj=>?_
   rw[h.cellAt j ab];simp[hj]
theorem ko (s:ByteArray) (a c:Nat) (h1:a+c≤s.size) (hs:s.size≤maxLen) (hc:c≤6) (w:World) :
 Calls Tryz.prog 73 #[.string s,.int .i64 a,.int .i64 c] w fun e w'=>e=.returned (.int .i64 (num (((bl s).drop a).take c)))∧w=w':=by
 unfold maxLen at hs
 go_enter Tryz.func73,Tryz.ntmps73
 go_wp2
 go_loop [7,8] (fun n i=>∃(k:Nat),k≤c∧i=.int .i64 ((k:Int)-1)∧n=.int .i64 (num ((((bl s).drop a).take c).drop k))) (fun _ i=>(intOf i+1).toNat)
 case atStart=>exact⟨c,Nat.le_refl _,rfl,by rw[List.drop_of_length_le (by rw[List.length_take];omega)];rfl⟩
 case round=>
  obtain⟨k,hk,rfl,rfl⟩:=hrel;by_cases hlt:1≤k
  · obtain⟨j,rfl⟩:∃j,k=j+1:=⟨k-1,by omega⟩
    have hj:a+j<s.size:=by omega
    have hc:s[a+j].toNat<256:=s[a+j].toNat_lt;obtain⟨L,hL⟩:∃L,L=(((bl s).drop a).take c):=⟨_,rfl⟩
    have hLl:L.length=c:=by rw[hL,List.length_take,List.length_drop,aO];omega
    have hget:L[j]? = some s[a+j]:=by
     rw[hL,List.getElem?_take,if_pos ab,List.getElem?_drop];exact List.getElem?_eq_getElem (l:=bl s) hj
    have hn:num (L.drop j)=s[a+j].toNat+256*num (L.drop (j+1)):=by
     rw[List.drop_eq_getElem_cons ab];rw[List.getElem?_eq_getElem ab] at hget;injection hget with hget;rw[hget];rfl
    have hm0:=(dS (L.drop (j+1))).1;have hm2:num (L.drop (j+1))<281474976710656:=zG _ (by rw[List.length_drop];omega);rw[←hL];have HN:=Lib.hid hn;clear hn hL hLl hget
    go_wp2
    go_round
    case rel=>exact⟨j,by omega,rfl,by rw[HN.out];go_num⟩
    case measure=>simp[intOf]
  · go_wp2
    go_ret
    obtain rfl:k=0:=by omega
    exact⟨rfl,rfl⟩
open Go.RowKit
theorem vu (n:Nat):(madeCells (Value.int .u8 0).cells (n*1)).toList=(bK n).map bb:=by
 have:(Value.int .u8 0).cells=#[.int .u8 0]:=rfl;rw[this,Nat.mul_one,toList_madeCells_one];simp[bK,bb]
theorem pq (n:Nat) (w:World) (hn:n≤200000) :
 Calls Tryz.prog 126 #[.int .i64 n] w fun e w'=>e=.returned (.string (bs (bK n)))∧Below w.heap.size w w':=by
 obtain⟨i0,hi,hz0,hz1,hz2⟩:=info_parts uy
 have hmin:min (n:Int) 200000=n:=by omega
 have hmax:max 0 (n:Int)=n:=by omega
 go_enter Tryz.func126,Tryz.ntmps126
 go_wp2_with (at_make;refine wpList_make_full _ rfl _ _ _ rfl w.heap.size 5 i0 (.int .u8 0) 1 Tryz.underlying126 hi hz0 hz1 _ _ _ _ n rfl rfl rfl rfl (by rw[hz2];omega) (by unfold maxLen;omega) (Nat.le_refl _) ?_;intro W1 hown hgrow;rw[vu] at hown;have hb1:Below w.heap.size w W1:=(Below.refl _ _).grown hgrow (Nat.le_refl _) a7;have hconv:=rz hown;clear hown hgrow)
 go_ret
 exact⟨rfl,hb1⟩
theorem sk (k:Nat) (z:ByteArray) (w:World) (hz:z=bs (bK k)) (hk:k≤1000000) :
 Calls Tryz.prog 267 #[.string ⟨#[0]⟩,.int .i64 k] w fun e w'=>e=.returned (.string z)∧Below w.heap.size w w':=by
 refine(Tryz.strings_Repeat _ k _ ab (by show 1*k≤_;omega)).mono ?_
 rintro e W1 ⟨rfl,hb1⟩
 refine⟨?_,hb1⟩;rw[hz,←sB];rfl
theorem qB (k:Nat):(bs (bK k)).size=k:=by rw[fI];simp[bK]
end Go.Proofs.YtcfdpfmchchkaaaGreatDoor
