/-
  strings.Builder beside other things of one's own: copyCheck, WriteString, String.
  Chapter 20: the reader of pages.
  Chapter 20: the reader's bytes.
  Chapter 20: the reader's records.
  Chapter 20: the reader's record behind another one.
  Chapter 20: two restart areas, the later one first.
  Chapter 20: the restart areas that are read.
  Chapter 20: the log that is read.
  Chapter 20: RingIn.
-/
import Derived.Lib.Builder
import Derived.Lib.UnsafeStr
import Derived.Test.YtcfdpfmchchkaaaGreatDoorRgC
import Derived.Test.YtcfdpfmchchkaaaGreatDoorSplF
namespace Go.Proofs.YtcfdpfmchchkaaaGreatDoor
set_option maxHeartbeats 1000000
set_option maxRecDepth 4000
set_option linter.unusedVariables false
set_option linter.unusedSimpArgs false
open Go.RowKit Go.Sort
def De (used:Bool) (b:Nat):Value:=.pointer (if used then some ⟨b,0,none⟩ else none)
def CW (b:Nat) (v:Value) (k:Nat):Prop:=k=b∨v.ownBlock=some k
structure BldOk (used:Bool) (b:Nat) (v:Value) (l:List UInt8) (X:World):Prop where
 box:Box X b #[De used b,v] 355
 row:X.ownsRow 0 5 1 v l.length (l.map bb)
 ne:v.ownBlock≠some b
 nz:v=.slice none 0 0∨l≠[]
theorem BldOk.stable {used:Bool} {b:Nat} {v:Value} {l:List UInt8} (X X':World) (h:BldOk used b v l X) (hb:∀k,CW b v k→X'.heap[k]? = X.heap[k]?):BldOk used b v l X':=
 ⟨(hb b (.inl rfl)).trans h.box,Ent.ok_of (e:=.row v l.length 5 1 (l.map bb)) h.row (fun k hk=>hb k (.inr hk)),h.ne,h.nz⟩
section
variable {P:Program} {ρ:Operand→Value} {X:World} {d:Option Tmp} {ty:TypeId} {ps:String} {af:Array Edge} {g:Option (Nat × Bool)}
end
open Go.RowKit Go.Sort
structure RdrP where
 s:List UInt8
 pg:Nat
 top:Int
def AL (R m G:Nat) (ks:List (Nat × Option Nat)) (b:Nat):Prop:=b=R∨b=m∨b=G∨∃q,(q,some b)∈ks
structure RdrRel (R m G:Nat) (k0:List (Nat × Option Nat)) (w0:World) (ks:List (Nat × Option Nat)) (X:World):Prop where
 sub:∀y∈k0,y∈ks
 same:∀b,AL R m G k0 b→b≠m→X.heap[b]? = w0.heap[b]?
theorem oN {R m G:Nat} {k0 ks:List (Nat × Option Nat)} (h:∀y∈k0,y∈ks) {b:Nat} (hb:AL R m G k0 b):AL R m G ks b:=by
 rcases hb with h1 | h1 | h1 | ⟨q,h1⟩
 · exact .inl h1
 · exact .inr (.inl h1)
 · exact .inr (.inr (.inl h1))
 · exact .inr (.inr (.inr ⟨q,h _ h1⟩))
theorem RdrRel.stable {R m G:Nat} {k0 ks:List (Nat × Option Nat)} {w0:World} (X X':World) (h:RdrRel R m G k0 w0 ks X) (hb:∀b,AL R m G ks b→X'.heap[b]? = X.heap[b]?):RdrRel R m G k0 w0 ks X':=
 ⟨h.sub,fun b hD hne=>(hb b (oN h.sub hD)).trans (h.same b hD hne)⟩
theorem RdrRel.refl {R m G:Nat} {ks:List (Nat × Option Nat)} {w:World}:RdrRel R m G ks w ks w:=⟨fun _ h=>h,fun _ _ _=>rfl⟩
theorem RdrRel.trans {R m G:Nat} {k0 k1 k2:List (Nat × Option Nat)} {w0 w1 w2:World} (h:RdrRel R m G k0 w0 k1 w1) (k:RdrRel R m G k1 w1 k2 w2):RdrRel R m G k0 w0 k2 w2:=
 ⟨fun y hy=>k.sub y (h.sub y hy),fun b hD hne=>(k.same b (oN h.sub hD) hne).trans (h.same b hD hne)⟩
theorem RdrRel.step {R m G:Nat} {k0 k1 k2:List (Nat × Option Nat)} {w0 X X':World} (h:RdrRel R m G k0 w0 k1 X) (hk:∀y∈k1,y∈k2) (hb:∀b,b≠m→X'.heap[b]? = X.heap[b]?):RdrRel R m G k0 w0 k2 X':=
 ⟨fun y hy=>hk y (h.sub y hy),fun b hD hne=>(hb b hne).trans (h.same b hD hne)⟩
structure RdrB (x:RdrP):Prop where
 len:x.s.length=512*x.pg
 pg:4≤x.pg∧x.pg≤40
 top:x.top≤60000
open Go.RowKit Go.Sort
theorem Bh {s:List UInt8} {pg q:Nat} {top sq:Int} {cs:List UInt8} (h:xe s pg top q=some (sq,cs)):cs.length≤448∧1≤sq∧sq≤top:=by
 unfold xe at h
 split at h
 · cases h
 · split at h
   · rename_i h1
     injection h with h;injection h with h2 h3;rw[Bool.and_eq_true,Bool.and_eq_true,inB_true,inB_true] at h1;rw[←h2,←h3];have:=List.length_take_le (fe (zo (lR s (2+q % (pg-2)))) 12 2).toNat ((zo (lR s (2+q % (pg-2)))).drop 64);omega
   · cases h
structure ByS where
 c:Nat
 a:Nat
 l:List UInt8
 v:Value
 u:Bool
 ks:List (Nat × Option Nat)
open Go.RowKit Go.Sort
def C1 (x:RdrP) (at' aft:Int):Option RecP:=Ah x.s x.pg x.top at' aft
open Go.RowKit Go.Sort
def Cr (x:RdrP) (y:RecP):Option RecP:=Bf x.s x.pg x.top y
open Go.RowKit Go.Sort
open Go.RowKit Go.Sort
open Go.RowKit Go.Sort
theorem vm {x:RdrP} {a aft:Int} {y:RecP} (h:C1 x a aft=some y):y.l=a+1∧0≤a∧a % 8=0∧y.b.size≤3000∧1≤y.s:=by
 unfold C1 Ah at h
 split at h
 · cases h
 · rename_i h0
   split at h
   · cases h
   · rename_i q b hp
     split at h
     · cases h
     · split at h
       · cases h
       · rename_i hd _
         split at h
         · cases h
         · rename_i hin
           split at h
           · cases h
           · rename_i wh _
             split at h
             · injection h with h
               rw[←h];have h2:1≤fe hd 0 2∧fe hd 0 2≤3000:=inB_true.1 (by simpa using hin);refine⟨rfl,by omega,by omega,?_,(Bh hp).2.1⟩;show(bs ((wh.drop 12).take (fe hd 0 2).toNat)).size≤3000;rw[fI];have:=List.length_take_le (fe hd 0 2).toNat (wh.drop 12);omega
             · cases h
theorem vi {x:RdrP} {y z:RecP} (hy:1≤y.l∧y.b.size≤3000) (h:Cr x y=some z):1≤z.l∧z.l≤y.l+4000∧z.b.size≤3000:=by
 have hsz:12≤nj y.b.size∧nj y.b.size≤3020:=by unfold nj;omega
 have hbh:ew y=y.l-1+nj y.b.size:=rfl;have hnx:=qi (p:=ew y)
 have key:∀a,(a=ew y∨a=eU (ew y))→C1 x a y.s=some z→1≤z.l∧z.l≤y.l+4000∧z.b.size≤3000:=fun a ha hr=>by
  have:=vm hr
  rcases ha with rfl | rfl<;>omega
 unfold Cr Bf at h
 split at h
 · rename_i y' hf
   injection h with h;rw[Option.filter_eq_some_iff] at hf;rw[h] at hf;exact key _ (.inl rfl) hf.1
 · split at h
   · cases h
   · split at h
     · cases h
     · rename_i y' hr
       have hz:y'=z:=by
        split at h
        · injection h
        · split at h
          · cases h
          · split at h
            · injection h
            · cases h
       rw[hz] at hr;exact key _ (.inr rfl) hr
structure RiS where
 b:Nat
 y:RecP
 cur:Option RecP
 rs:List RecP
 A:Option Addr
 c:Nat
 ks:List (Nat × Option Nat)
structure RiF (x:RdrP) (cur0:Option RecP) (q:RiS):Prop where
 y:∀z,q.cur=some z→q.y=z
 all:qP x.s x.pg x.top 100 cur0=(qP x.s x.pg x.top (100-q.rs.length) q.cur).map (q.rs ++ ·)
 len:q.rs.length≤100
 bd:∀z,q.cur=some z→1≤z.l∧z.l≤100000001+4000*q.rs.length∧z.b.size≤3000
 i6:∀z∈q.rs,I6 z.l
theorem RiF.next {x:RdrP} {cur0:Option RecP} {q:RiS} (h:RiF x cur0 q) (hc:q.cur=some q.y) (hl:q.rs.length<100) (b:Nat) (y':RecP) (hy:∀z,Cr x q.y=some z→y'=z) (A:Option Addr) (c:Nat) (ks:List (Nat × Option Nat)) :
 RiF x cur0 ⟨b,y',Cr x q.y,q.rs ++ [q.y],A,c,ks⟩:=by
 have hb:=h.bd _ hc;refine⟨hy,?_,by simp;omega,fun z hz=>?_,fun z hz=>?_⟩
 · rw[h.all,hc]
   obtain⟨f,hf⟩:∃f,100-q.rs.length=f+1:=⟨99-q.rs.length,by omega⟩
   have e:100-(q.rs ++ [q.y]).length=f:=by simp;omega
   show _=(qP x.s x.pg x.top (100-(q.rs ++ [q.y]).length) (Cr x q.y)).map _;rw[e,hf];show((qP x.s x.pg x.top f (Bf x.s x.pg x.top q.y)).map (q.y::·)).map (q.rs ++ ·)=_;rw[Option.map_map];unfold Cr
   congr 1
   funext l;simp
 · have:=vi ⟨hb.1,hb.2.2⟩ hz
   refine⟨this.1,?_,this.2.2⟩;simp only[List.length_append,List.length_cons,List.length_nil];omega
 · rcases List.mem_append.1 hz with h1 | h1
   · exact h.i6 z h1
   · rw[List.mem_singleton.1 h1];unfold I6;omega
open Go.RowKit Go.Sort
end Go.Proofs.YtcfdpfmchchkaaaGreatDoor
