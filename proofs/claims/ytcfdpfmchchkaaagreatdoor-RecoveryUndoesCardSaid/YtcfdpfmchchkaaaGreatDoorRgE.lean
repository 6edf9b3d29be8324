/- strings.Builder beside o -/
import Derived.Lib.Builder
import Derived.Lib.UnsafeStr
import Derived.Test.YtcfdpfmchchkaaaGreatDoorRgB
import Derived.Test.YtcfdpfmchchkaaaGreatDoorSplF
namespace Go.Proofs.YtcfdpfmchchkaaaGreatDoor
set_option maxRecDepth 100000
set_option maxHeartbeats 1000000
set_option linter.unusedVariables false
set_option linter.unusedSimpArgs false
open Go.RowKit Go.Sort
def Iy (used:Bool) (b:Nat):Value:=.pointer (if used then some ⟨b,0,none⟩ else none)
def IG (b:Nat) (v:Value) (k:Nat):Prop:=k=b∨v.ownBlock=some k
structure BldOk (used:Bool) (b:Nat) (v:Value) (l:List UInt8) (X:World):Prop where
 box:Box X b #[Iy used b,v] 355
 row:X.ownsRow 0 5 1 v l.length (l.map bA)
 ne:v.ownBlock≠some b
 nz:v=.slice none 0 0∨l≠[]
theorem BldOk.stable {used:Bool} {b:Nat} {v:Value} {l:List UInt8} (X X':World) (h:BldOk used b v l X) (a:∀k,IG b v k→X'.heap[k]? = X.heap[k]?):BldOk used b v l X':=
 ⟨(a b (.inl rfl)).trans h.box,Ent.ok_of (e:=.row v l.length 5 1 (l.map bA)) h.row (fun k c=>a k (.inr c)),h.ne,h.nz⟩
section
variable {P:Program} {ρ:Operand→Value} {X:World} {d:Option Tmp} {ty:TypeId} {ps:String} {af:Array Edge} {g:Option (Nat × Bool)}
end
open Go.RowKit Go.Sort
structure RdrP where
 s:List UInt8
 pg:Nat
 top:Int
def FY (R m G:Nat) (ks:List (Nat × Option Nat)) (b:Nat):Prop:=b=R∨b=m∨b=G∨∃q,(q,some b)∈ks
structure RdrRel (R m G:Nat) (k0:List (Nat × Option Nat)) (w0:World) (ks:List (Nat × Option Nat)) (X:World):Prop where
 sub:∀y∈k0,y∈ks
 same:∀b,FY R m G k0 b→b≠m→X.heap[b]? = w0.heap[b]?
theorem tt {R m G:Nat} {k0 ks:List (Nat × Option Nat)} (h:∀y∈k0,y∈ks) {b:Nat} (c:FY R m G k0 b):FY R m G ks b:=by
 rcases c with a | a | a | ⟨q,a⟩
 · exact .inl a
 · exact .inr (.inl a)
 · exact .inr (.inr (.inl a))
 · exact .inr (.inr (.inr ⟨q,h _ a⟩))
theorem RdrRel.stable {R m G:Nat} {k0 ks:List (Nat × Option Nat)} {w0:World} (X X':World) (h:RdrRel R m G k0 w0 ks X) (c:∀b,FY R m G ks b→X'.heap[b]? = X.heap[b]?):RdrRel R m G k0 w0 ks X':=
 ⟨h.sub,fun b a hne=>(c b (tt h.sub a)).trans (h.same b a hne)⟩
theorem RdrRel.refl {R m G:Nat} {ks:List (Nat × Option Nat)} {w:World}:RdrRel R m G ks w ks w:=⟨fun _ h=>h,fun _ _ _=>rfl⟩
theorem RdrRel.trans {R m G:Nat} {k0 a c:List (Nat × Option Nat)} {w0 f e:World} (h:RdrRel R m G k0 w0 a f) (k:RdrRel R m G a f c e):RdrRel R m G k0 w0 c e:=
 ⟨fun y j=>k.sub y (h.sub y j),fun b i hne=>(k.same b (tt h.sub i) hne).trans (h.same b i hne)⟩
theorem RdrRel.step {R m G:Nat} {k0 a c:List (Nat × Option Nat)} {w0 X X':World} (h:RdrRel R m G k0 w0 a X) (f:∀y∈a,y∈c) (e:∀b,b≠m→X'.heap[b]? = X.heap[b]?):RdrRel R m G k0 w0 c X':=
 ⟨fun y i=>f y (h.sub y i),fun b j hne=>(e b hne).trans (h.same b j hne)⟩
structure RdrB (x:RdrP):Prop where
 len:x.s.length=512*x.pg
 pg:4≤x.pg∧x.pg≤40
 top:x.top≤60000
open Go.RowKit Go.Sort
theorem Fm {s:List UInt8} {pg q:Nat} {top a:Int} {cs:List UInt8} (h:C2 s pg top q=some (a,cs)):cs.length≤448∧1≤a∧a≤top:=by
 unfold C2 at h
 split at h
 · cases h
 · split at h
   · rename_i b
     injection h with h;injection h with h2 h3;rw[Bool.and_eq_true,Bool.and_eq_true,inB_true,inB_true] at b;rw[←h2,←h3];have:=List.length_take_le (gY (Bw (py s (2+q % (pg-2)))) 12 2).toNat ((Bw (py s (2+q % (pg-2)))).drop 64);omega
   · cases h
structure ByS where
 c:Nat
 a:Nat
 l:List UInt8
 v:Value
 u:Bool
 ks:List (Nat × Option Nat)
open Go.RowKit Go.Sort
def IB (x:RdrP) (b a:Int):Option RecP:=F1 x.s x.pg x.top b a
open Go.RowKit Go.Sort
def Hq (x:RdrP) (y:RecP):Option RecP:=EU x.s x.pg x.top y
open Go.RowKit Go.Sort
open Go.RowKit Go.Sort
open Go.RowKit Go.Sort
theorem Bm {x:RdrP} {a f:Int} {y:RecP} (h:IB x a f=some y):y.l=a+1∧0≤a∧a % 8=0∧y.b.size≤3000∧1≤y.s:=by
 unfold IB F1 at h
 split at h
 · cases h
 · rename_i m
   split at h
   · cases h
   · rename_i q b j
     split at h
     · cases h
     · split at h
       · cases h
       · rename_i c _
         split at h
         · cases h
         · rename_i e
           split at h
           · cases h
           · rename_i i _
             split at h
             · injection h with h
               rw[←h];have k:1≤gY c 0 2∧gY c 0 2≤3000:=inB_true.1 (al e);refine⟨rfl,by omega,by omega,?_,(Fm j).2.1⟩;show(bs ((i.drop 12).take (gY c 0 2).toNat)).size≤3000;rw[cm];have:=List.length_take_le (gY c 0 2).toNat (i.drop 12);omega
             · cases h
theorem As {x:RdrP} {y z:RecP} (m:1≤y.l∧y.b.size≤3000) (h:Hq x y=some z):1≤z.l∧z.l≤y.l+4000∧z.b.size≤3000:=by
 have e:12≤kQ y.b.size∧kQ y.b.size≤3020:=by unfold kQ;omega
 have i:fb y=y.l-1+kQ y.b.size:=rfl;have f:=pQ (p:=fb y)
 have key:∀a,(a=fb y∨a=gp (fb y))→IB x a y.s=some z→1≤z.l∧z.l≤y.l+4000∧z.b.size≤3000:=fun a k hr=>by
  have:=Bm hr
  rcases k with rfl | rfl<;>omega
 unfold Hq EU at h
 split at h
 · rename_i c hf
   injection h with h;rw[Option.filter_eq_some_iff] at hf;rw[h] at hf;exact key _ (.inl rfl) hf.1
 · split at h
   · cases h
   · split at h
     · cases h
     · rename_i c hr
       have j:c=z:=by
        split at h
        · injection h
        · split at h
          · cases h
          · split at h
            · injection h
            · cases h
       rw[j] at hr;exact key _ (.inr rfl) hr
structure RiS where
 b:Nat
 y:RecP
 cur:Option RecP
 rs:List RecP
 A:Option Addr
 c:Nat
 ks:List (Nat × Option Nat)
structure RiF (x:RdrP) (cur0:Option RecP) (q:RiS):Prop where
 y:∀z,q.cur=some z→q.y=z
 all:xa x.s x.pg x.top 100 cur0=(xa x.s x.pg x.top (100-q.rs.length) q.cur).map (q.rs ++ ·)
 len:q.rs.length≤100
 bd:∀z,q.cur=some z→1≤z.l∧z.l≤100000001+4000*q.rs.length∧z.b.size≤3000
 i6:∀z∈q.rs,I6 z.l
theorem RiF.next {x:RdrP} {cur0:Option RecP} {q:RiS} (h:RiF x cur0 q) (k:q.cur=some q.y) (o:q.rs.length<100) (b:Nat) (j:RecP) (n:∀z,Hq x q.y=some z→j=z) (A:Option Addr) (c:Nat) (ks:List (Nat × Option Nat)) :
 RiF x cur0 ⟨b,j,Hq x q.y,q.rs ++ [q.y],A,c,ks⟩:=by
 have m:=h.bd _ k;refine⟨n,?_,by simp;omega,fun z i=>?_,fun z i=>?_⟩
 · rw[h.all,k]
   obtain⟨f,hf⟩:∃f,100-q.rs.length=f+1:=⟨99-q.rs.length,by omega⟩
   have e:100-(q.rs ++ [q.y]).length=f:=by simp;omega
   show _=(xa x.s x.pg x.top (100-(q.rs ++ [q.y]).length) (Hq x q.y)).map _;rw[e,hf];show((xa x.s x.pg x.top f (EU x.s x.pg x.top q.y)).map (q.y::·)).map (q.rs ++ ·)=_;rw[Option.map_map];unfold Hq
   congr 1
   funext l;simp
 · have:=As ⟨m.1,m.2.2⟩ i
   refine⟨this.1,?_,this.2.2⟩;simp only[List.length_append,List.length_cons,List.length_nil];omega
 · rcases List.mem_append.1 i with a | a
   · exact h.i6 z a
   · rw[List.mem_singleton.1 a];unfold I6;omega
open Go.RowKit Go.Sort
open Go.RowKit Go.Sort
section
variable {P:Program} {ρ:Operand→Value} {X:World} {d:Option Tmp} {ty:TypeId} {ps:String} {af:Array Edge} {g:Option (Nat × Bool)}
theorem EM {x y:Operand} {t b:TypeId} {m n:Int} (hx:ρ x=ae m) (c:ρ y=ae n) (h:0<n∧-4611686018427387904≤m∧m≤4611686018427387904):(execOp ρ ⟨d,.binOp .quo t x y b,ty,ps,af,g⟩).run P X=.ok (.value (ae (m.tdiv n))) X:=by
 have e:n≠0:=by omega
 have Y:-4611686018427387904≤m.tdiv n∧m.tdiv n≤4611686018427387904:=by
  rcases Int.le_total 0 m with a | a
  · rw[Int.tdiv_eq_ediv_of_nonneg a]
    have Y:0≤m / n:=Int.ediv_nonneg a ab;have Y:m / n≤m:=Int.ediv_le_self n a;omega
  · have f:m.tdiv n = -((-m) / n):=by
     rw[←Int.tdiv_eq_ediv_of_nonneg ab,Int.neg_tdiv,Int.neg_neg]
    have Y:0≤(-m) / n:=Int.ediv_nonneg ab ab;have Y:(-m) / n≤-m:=Int.ediv_le_self n ab;omega
 simp[execOp,hx,c,eqGuard,binOp,Op.intDiv,e,dz (n:=m.tdiv n) ab]
theorem Em {x:Operand} {t:TypeId} {m:Int} (hx:ρ x=ae m) (h:-9223372036854775807≤m∧m<9223372036854775808):(execOp ρ ⟨d,.unOp .neg t x,ty,ps,af,g⟩).run P X=.ok (.value (ae (-m))) X:=by
 simp[execOp,hx,Op.unary,Op.intArith,dz (n:=-m) ab]
end
theorem CN (n b:Int) (c:0<b):(if n.tmod b<0 then n.tdiv b-1 else n.tdiv b)=n / b:=by
 rcases Int.le_total 0 n with h | h
 · rw[Int.tdiv_eq_ediv_of_nonneg h,Int.tmod_eq_emod_of_nonneg h,if_neg (by have:=Int.emod_nonneg n (b:=b) ab;omega)]
 · have f:n.tdiv b = -((-n) / b):=by rw[←Int.tdiv_eq_ediv_of_nonneg ab,Int.neg_tdiv,Int.neg_neg]
   have e:n.tmod b = -((-n) % b):=by rw[←Int.tmod_eq_emod_of_nonneg ab,Int.neg_tmod,Int.neg_neg]
   rw[f,e];have a:=Int.mul_ediv_add_emod (-n) b;have e2:=Int.emod_nonneg (-n) (b:=b) ab;have e3:=Int.emod_lt_of_pos (-n) c;generalize j:(-n) / b=q at a ⊢;generalize hr:(-n) % b=r at a e2 e3 ⊢;by_cases i:r=0
   · subst i
     rw[if_neg ab]
     have:n=(-q)*b:=by rw[Int.neg_mul,Int.mul_comm];omega
     rw[this,Int.mul_ediv_cancel _ ab]
   · rw[if_pos ab]
     have:n=(b-r)+b*(-q-1):=by rw[Int.mul_sub,Int.mul_neg,Int.mul_one];omega
     rw[this,Int.add_mul_ediv_left _ _ ab,Int.ediv_eq_zero_of_lt ab ab];omega
theorem zE (n b:Int) (h:0<b∧-4611686018427387904≤n∧n≤4611686018427387904) (w:World) :
 gQ 247 #[ae n,ae b] w (ae (n / b)):=by
 have a:=CN n b h.1
 have f:-4611686018427387904≤n.tdiv b∧n.tdiv b≤4611686018427387904:=by
  rcases Int.le_total 0 n with c | c
  · rw[Int.tdiv_eq_ediv_of_nonneg c]
    have Y:0≤n / b:=Int.ediv_nonneg c ab;have Y:n / b≤n:=Int.ediv_le_self b c;omega
  · have i:n.tdiv b = -((-n) / b):=by rw[←Int.tdiv_eq_ediv_of_nonneg ab,Int.neg_tdiv,Int.neg_neg]
    have Y:0≤(-n) / b:=Int.ediv_nonneg ab ab;have Y:(-n) / b≤-n:=Int.ediv_le_self b ab;omega
 refine an (N:=16) Tryz.func247 rfl rfl rfl (fun _ Y=>?_);have j:=St.init w;refine GO 9 ?_;intro _ Y;refine sv Y (EM (Y.ev rfl) (Y.ev rfl) h) fun _ Y=>?_;refine GO 8 ?_;intro _ Y;refine sv Y (ze (Y.ev rfl) (Y.ev rfl) ab) fun _ Y=>?_;refine GO 3 ?_;intro _ Y;refine ak (Y.ev rfl) (fun e=>?_) (fun e=>?_)
 ·
  rw[if_pos (of_decide_eq_true e)] at a;refine GO 2 ?_;intro _ Y;refine sv Y (fN (Y.ev rfl) (Y.ev rfl) ⟨by omega,by omega⟩) fun _ Y=>?_;refine GO 10 ?_;intro _ Y;refine aC Y rfl rfl ?_;exact⟨by rw[a],rfl⟩
 ·
  rw[if_neg (of_decide_eq_false e)] at a;refine GO 9 ?_;intro _ Y;refine aC Y rfl rfl ?_;exact⟨by rw[a],rfl⟩
theorem vy (n b:Int) (h:0<b∧-4611686018427387904≤n∧n≤4611686018427387904) (w:World) :
 gQ 232 #[ae n,ae b] w (ae (-((-n) / b))):=by
 have f:-4611686018427387904≤(-n) / b∧(-n) / b≤4611686018427387904:=by
  rcases Int.le_total 0 (-n) with e | e
  · have h3:0≤(-n) / b:=Int.ediv_nonneg e ab
    have Y:(-n) / b≤-n:=Int.ediv_le_self b e;omega
  · have h3:(-n) / b<1:=Int.ediv_lt_of_lt_mul h.1 ab
    have Y:-n≤(-n) / b:=(Int.le_ediv_iff_mul_le h.1).2 (by
     have:=Int.mul_le_mul_of_nonpos_left (a:=-n) (b:=b) (c:=1) e ab
     omega)
    omega
 refine an (N:=10) Tryz.func232 rfl rfl rfl (fun _ Y=>?_);have i:=St.init w;refine GO 8 ?_;intro _ e;refine sv e (Em (e.ev rfl) ab) fun _ h3=>?_;refine GO 1 ?_;intro _ Y;refine dn Y rfl (zE _ _ ab _) fun _ Y=>?_;refine sv Y (Em (Y.ev rfl) ab) fun _ Y=>?_;refine GO 4 ?_;intro _ Y;refine aC Y rfl rfl ?_;exact⟨rfl,rfl⟩
open Go.RowKit Go.Sort
theorem jl (n:Int) (w:World):gQ 227 #[ae n] w (.bool (kB n)):=by
 refine an (N:=5) Tryz.func227 rfl rfl rfl (fun _ Y=>?_);have a:=St.init w;refine GO 8 ?_;intro _ Y;refine dn Y rfl (br _ _ _ _) fun _ Y=>?_;refine GO 4 ?_;intro _ Y;refine aC Y rfl rfl ?_;exact⟨rfl,rfl⟩
theorem sN (n:Int) (h:0≤n∧n≤4611686018427387904) (w:World):gQ 233 #[ae n] w (ae (n / 448)):=by
 refine an (N:=5) Tryz.func233 rfl rfl rfl (fun _ Y=>?_);have a:=St.init w;refine GO 8 ?_;intro _ Y;refine sv Y (ma (Y.ev rfl) (Y.ev rfl) ⟨by omega,by omega,by omega⟩) fun _ Y=>?_;refine GO 4 ?_;intro _ Y;refine aC Y rfl rfl ?_;exact⟨rfl,rfl⟩
theorem pY (n:Int) (h:-1000000000000≤n∧n≤1000000000000) (w:World):gQ 228 #[ae n] w (ae (gp n)):=by
 refine an (N:=6) Tryz.func228 rfl rfl rfl (fun _ Y=>?_);have a:=St.init w;refine GO 8 ?_;intro _ Y;refine dn Y rfl (vy _ _ ab _) fun _ Y=>?_;refine sv Y (gT (Y.ev rfl) (Y.ev rfl) ab) fun _ Y=>?_;refine GO 4 ?_;intro _ Y;refine aC Y rfl rfl ?_;exact⟨by unfold gp;congr 2;omega,rfl⟩
theorem k6 (p c:Int) (h:-1000000000000≤p∧p≤1000000000000∧0≤c∧c≤1000000000000) (w:World):gQ 188 #[ae p,ae c] w (ae (p+kQ c)):=by
 refine an (N:=11) Tryz.func188 rfl rfl rfl (fun _ Y=>?_);have a:=St.init w;refine GO 10 ?_;intro _ Y;refine dn Y rfl (vy _ _ ab _) fun _ Y=>?_;refine sv Y (gT (Y.ev rfl) (Y.ev rfl) ab) fun _ Y=>?_;refine GO 5 ?_;intro _ Y;refine aC Y rfl rfl ?_;exact⟨by unfold kQ;congr 2;omega,rfl⟩
theorem sA (n:Int) (w:World):gQ 225 #[ae n] w (ae (kJ n)):=by
 refine an (N:=6) Tryz.func225 rfl rfl rfl (fun _ Y=>?_);have c:=St.init w;refine GO 8 ?_;intro _ a;refine GO 1 ?_;intro _ Y;refine dn Y rfl (br _ _ _ _) fun _ Y=>?_;refine GO 3 ?_;intro _ Y;refine ak (Y.ev rfl) (fun b=>?_) (fun b=>?_)
 ·
  have a:bB n 4 40=false:=al b;refine GO 7 ?_;intro _ Y;refine aC Y rfl rfl ?_;exact⟨by unfold kJ;rw[a];rfl,rfl⟩
 ·
  have a:bB n 4 40=true:=al b;refine GO 8 ?_;intro _ Y;refine aC Y rfl rfl ?_;exact⟨by unfold kJ;rw[a];rfl,rfl⟩
theorem kt (x:RstP) (w:World):bu 226 #[sb x] w (ae (gl x)):=by
 refine an (N:=19) Tryz.func226 rfl rfl rfl (fun _ Y=>?_);have Z:=St.init w;refine aj (aq ?_);refine nb Y rfl rfl Z fun b1 _ _ r a Z=>GO 6 ?_;intro _ i;refine GO 1 ?_;intro _ h3;refine GO 1 ?_;intro _ e;refine dn e rfl (br _ _ _ _) fun _ Y=>?_;refine GO 2 ?_;intro _ Y;apply bI Y Z 7 rfl 5 12
 case hf=>
  intro f;refine GO 2 ?_;intro _ Y;refine cx Y (ao Y _ rfl rfl rfl f) (aw a6 (Y.evs rfl) rfl) rfl rfl (jl _ _) fun _ Y=>GO 2 ?_;intro _ Y;exact ag ⟨Y.midE 4,Z⟩
 case ht=>
  intro f;refine GO 5 ?_;intro _ Y;exact ag ⟨Y.midE 4,Z⟩
 case h=>
  rintro m u ⟨q,b⟩
  refine GO 1 ?_;intro _ Y;apply bI Y b 13 rfl 5 18
  case hf=>
   intro j;refine GO 2 ?_;intro _ Y;refine cx Y (ao Y _ rfl rfl rfl j) (aw a6 (Y.evs rfl) rfl) rfl rfl (jl _ _) fun _ Y=>GO 2 ?_;intro _ Y;exact ag ⟨Y.midE 4,b⟩
  case ht=>
   intro j;refine GO 5 ?_;intro _ Y;exact ag ⟨Y.midE 4,b⟩
  case h=>
   rintro p t ⟨l,k⟩
   refine ag (ai ?_);refine ak (l.ev rfl) (fun n=>?_) (fun n=>?_)
   ·
    have a:r9 x=false:=by
     unfold r9
     cases i:bB x.s 1 60000<;>cases h3:kB x.c<;>cases e:kB x.o<;>simp_all
    refine GO 7 ?_;intro _ Y;refine aC Y rfl rfl ?_;exact⟨by unfold gl;rw[a];rfl,k.below⟩
   ·
    have a:r9 x=true:=by
     unfold r9
     cases i:bB x.s 1 60000<;>cases h3:kB x.c<;>cases e:kB x.o<;>simp_all
    refine GO 8 ?_;intro _ Y;refine aC Y rfl rfl ?_;exact⟨by unfold gl;rw[a];rfl,k.below⟩
theorem DR {l:List RecP} {n:Int} {k:Nat} (a:k<l.length) (h:(l.take k).find? (fun x=>x.l==n)=none) (hne:(l[k].l==n)=false):(l.take (k+1)).find? (fun x=>x.l==n)=none:=by
 rw[List.take_add_one,List.getElem?_eq_getElem a,List.find?_append,h];simp[hne]
theorem EF {l:List RecP} {n:Int} {k:Nat} (b:k<l.length) (h:(l.take k).find? (fun x=>x.l==n)=none) (a:(l[k].l==n)=true):xC l n=some l[k]:=by
 unfold xC
 conv=>lhs;rw[←List.take_append_drop k l]
 rw[List.find?_append,h,List.drop_eq_getElem_cons b,List.find?_cons,a];rfl
theorem wg (r:RngP) (A:Option Addr) (c:Nat) (n:Int) (w:World) (hr:Rd w w.heap.size A (aW r.rs)) (p:r.rs.length≤1000) :
 bu 235 #[bm r A c,ae n] w (.tuple #[.string (match xC r.rs n with | some x=>x.b | none=>⟨#[]⟩),.bool (xC r.rs n).isSome]):=by
 refine an (N:=28) Tryz.func235 rfl rfl rfl (fun _ Y=>?_);have Z:=St.init w;refine aj (aq ?_);refine nb Y rfl rfl Z fun q _ _ s Y Z=>GO 11 ?_;intro _ Y;refine aV Y Z [2,1] (fun (k:Nat)=>[(6,ae (k:Int))]) (fun (k:Nat)=>k≤r.rs.length∧(r.rs.take k).find? (fun x=>x.l==n)=none) (fun (k:Nat) L=>L) (fun (k:Nat)=>r.rs.length-k) (0) (⟨Nat.zero_le _,rfl⟩) bC (Z) ?_;intro k _ _ e Y Z;refine GO 4 ?_;intro _ Y;refine vf Y 7 7 fun _ Y=>?_;refine GO 5 ?_;intro _ Y;refine ak (Y.ev rfl) (fun m=>?_) (fun m=>?_)
 ·
  have a:k<r.rs.length:=by have:=of_decide_eq_true m;omega
  obtain⟨b,o,rfl,hB,_⟩:=hr.opened (by rw[bF];omega);refine wp_skip (ai (aj (wp_block (aj (aq ?_)))));refine vf Y 7 7 fun _ Y=>?_;refine GO 2 ?_;intro _ Y;refine sv Y (ar (i:=k) (sz:=3) dv aa (Y.ev rfl) (Y.ev rfl) ab ab rfl) fun _ Y=>?_;refine sv Y (fy 0 (Y.ev rfl)) fun _ Y=>?_;refine sv Y (lx (Y.ev rfl) ((recAt (Z.rd0 hr) a) 0 _ rfl)) fun _ Y=>?_;refine GO 4 ?_;intro _ Y;refine ak (Y.ev rfl) (fun f=>?_) (fun f=>?_)
  ·
   refine aj (aq ?_);refine vf Y 7 7 fun _ Y=>?_;refine GO 2 ?_;intro _ Y;refine sv Y (ar (i:=k) (sz:=3) dv aa (Y.ev rfl) (Y.ev rfl) ab ab rfl) fun _ Y=>?_;refine sv Y (fy 2 (Y.ev rfl)) fun _ Y=>?_;refine sv Y (lx (Y.ev rfl) ((recAt (Z.rd0 hr) a) 2 _ rfl)) fun _ Y=>?_;refine GO 10 ?_;intro _ Y;refine bU Y rfl rfl rfl ?_;exact⟨by rw[EF a e.2 f];rfl,Z.below⟩
  ·
   refine GO 9 ?_;intro _ Y;exact⟨k+1,ab,⟨a,DR a e.2 f⟩,Y.re bC,Z⟩
 ·
  have h:k=r.rs.length:=by have:=of_decide_eq_false m;omega
  have j:xC r.rs n=none:=by have:=e.2;rwa [h,List.take_length] at this
  refine GO 12 ?_;intro _ Y;refine bU Y rfl rfl rfl ?_;exact⟨by rw[j];rfl,Z.below⟩
theorem FO (l:List RecP) (n:Int):(xC l n).isSome=pF l n:=by
 unfold xC pF;rw[Bool.eq_iff_iff,List.find?_isSome,List.any_eq_true]
theorem CZ (r:RngP) (A:Option Addr) (c:Nat) (n:Int) (w:World) (hr:Rd w w.heap.size A (aW r.rs)) (a:r.rs.length≤1000) :
 bu 192 #[bm r A c,ae n] w (.bool (pF r.rs n)):=by
 refine an (N:=14) Tryz.func192 rfl rfl rfl (fun _ Y=>?_);have Z:=St.init w;refine aj (aq ?_);refine nb Y rfl rfl Z fun e _ _ b Y Z=>GO 5 ?_;intro _ Y;refine sv (v:=bm r A c) Y (ah aa aa (Y.ev rfl) (Z.cellsAll (i:=0) rfl)) fun _ Y=>?_;refine GO 1 ?_;intro _ Y;refine cQ Y rfl Z (wg r A c n _ (Z.rd0 hr) a) fun _ _ Y Z=>?_;refine GO 14 ?_;intro _ Y;refine aC Y rfl rfl ?_;exact⟨by rw[←FO];rfl,Z.below⟩
theorem Aq (r:RngP) (A:Option Addr) (c:Nat) (w:World) (hr:Rd w w.heap.size A (aW r.rs)) (y:RecP) (k:r.rs.getLast? = some y) (p:Bfr y) (n:r.rs.length≤1000) :
 bu 234 #[bm r A c] w (ae (fb y-1)):=by
 have hne:r.rs≠[]:=by intro h;rw[h] at k;cases k
 have m:=List.length_pos_iff.2 hne
 have e:r.rs[r.rs.length-1]=y:=by have:=mQ hne;rw[k] at this;injection this with this;exact this.symm
 have a:=p.bd;unfold Bfr at p;obtain⟨b,o,rfl,hB,_⟩:=hr.opened (by rw[bF];omega)
 have f:∀{X:World} {B:Nat},Rd X B (some ⟨b,o,none⟩) (aW r.rs)→∀(j:Nat) (u:Value),[Value.int .i64 y.l,ae y.s,.string y.b][j]? = some u→X.cell? ⟨b,o+(r.rs.length-1)*3+j,none⟩=some u:=fun h=>by rw[←e];exact recAt h ab
 refine an (N:=20) Tryz.func234 rfl rfl rfl (fun _ Y=>?_);have Z:=St.init w;refine aj (aq ?_);refine nb Y rfl rfl Z fun b1 _ _ t Y Z=>GO 5 ?_;intro _ Y;refine vf Y 7 7 fun _ Y=>?_;refine GO 1 ?_;intro _ Y;refine vf Y 7 7 fun _ Y=>?_;refine GO 3 ?_;intro _ Y;refine sv Y (ar (i:=r.rs.length-1) (sz:=3) dv aa (Y.ev rfl) (Y.ev rfl) ab ab rfl) fun _ Y=>?_;refine sv (v:=l8 y) Y (ah aa aa (Y.ev rfl) (f (Z.rd0 hr))) fun _ Y=>?_;refine na (.agg kr) Y rfl Z fun x _ _ q Y Z=>sw Y Z 0 fun _ Z=>?_;refine GO 10 ?_;intro _ Y;refine dn Y rfl (k6 _ _ ab _) fun _ Y=>?_;refine sv Y (fN (Y.ev rfl) (Y.ev rfl) ⟨by unfold fb at a;omega,by unfold fb at a;omega⟩) fun _ Y=>?_;refine GO 4 ?_;intro _ Y;refine aC Y rfl rfl ?_;exact⟨rfl,Z.below⟩
theorem rq (r:RngP) (A:Option Addr) (c:Nat) (w:World) (hr:Rd w w.heap.size A (aW r.rs)) (m:∀y,r.rs.getLast? = some y→Bfr y) (l:r.rs=[]∨(1≤r.r.o∧r.r.o≤100000000)) (f:r.rs.length≤1000) :
 bu 189 #[bm r A c] w (.tuple #[ae (eL r).1,ae (eL r).2]):=by
 refine an (N:=21) Tryz.func189 rfl rfl rfl (fun _ Y=>?_);have Z:=St.init w;refine aj (aq ?_);refine nb Y rfl rfl Z fun b1 _ _ p Y Z=>GO 7 ?_;intro _ Y;refine vf Y 7 7 fun _ Y=>?_;refine GO 5 ?_;intro _ Y;refine ak (Y.ev rfl) (fun j=>?_) (fun j=>?_)
 ·
  have b:r.rs=[]:=by simp only[beq_iff_eq] at j;exact List.eq_nil_of_length_eq_zero ab
  refine GO 8 ?_;intro _ Y;refine bU Y rfl rfl rfl ?_;exact⟨by unfold eL;rw[b];rfl,Z.below⟩
 ·
  have hne:r.rs≠[]:=by intro h;rw[h] at j;simp at j
  replace l:=l.resolve_left hne;have a:=mQ hne;obtain⟨y,k⟩:∃y,r.rs.getLast? = some y:=⟨_,a⟩;have e:=m _ k;have n:=e.bd;refine GO 5 ?_;intro _ Y;refine vf Y 2 3 fun _ Y=>?_;refine GO 2 ?_;intro _ Y;refine dn Y rfl (sN _ ab _) fun _ Y=>?_;refine GO 6 ?_;intro _ Y;refine sv (v:=bm r A c) Y (ah aa aa (Y.ev rfl) (Z.cellsAll (i:=0) rfl)) fun _ Y=>?_;refine cQ Y rfl Z (Aq r A c _ (Z.rd0 hr) y k e f) fun _ _ Y Z=>?_;refine dn Y rfl (sN _ ab _) fun _ Y=>?_;refine GO 8 ?_;intro _ Y;refine bU Y rfl rfl rfl ?_;exact⟨by unfold eL;rw[k],Z.below⟩
open Go.RowKit Go.Sort
theorem Ao (r:RngP) (A:Option Addr) (c:Nat) (w:World) (b:r.rs=[]) :
 Calls Tryz.prog 44 #[bm r A c] w fun e f=>∃h c',e=.returned (bm r h c')∧f.ownsRow w.heap.size 177 3 (.slice h r.rs.length c') r.rs.length (aW r.rs)∧Below w.heap.size w f:=by
 obtain⟨pg,rr,ee,rs,nx⟩:=r;have a:rs=[]:=b;subst a;refine an (N:=11) Tryz.func44 rfl rfl rfl (fun _ Y=>?_);have Z:=St.init w;refine aj (aq ?_);refine nb Y rfl rfl Z fun b1 _ _ k Y Z=>na (.agg gU) Y rfl Z fun m _ _ p Y Z=>rV ?_;refine sv Y (ah aa aa (Y.ev rfl) (Z.cellsAll (i:=1) rfl)) fun _ Y=>?_;refine na (.agg gU) Y rfl Z fun s _ _ l Y Z=>sw Y Z 0 fun _ Z=>?_;refine rV ?_;refine dc (zc:=oU) (sz:=3) Y (wn rfl) ⟨rfl,rfl⟩ rfl dv aa aa rfl rfl rfl (Y.evs2 rfl) rfl rfl rfl Z fun j _ _ o Y Z=>vf Y 7 7 fun _ Y=>?_;refine GO 1 ?_;intro _ Y;refine lT (sz:=3) Y (wn rfl) ⟨rfl,rfl⟩ rfl dv aa (Y.ev rfl) (Y.ev rfl) fun _ Y=>vf Y 7 7 fun _ Y=>?_;refine aS Y (wn rfl) ⟨rfl,rfl⟩ (Y.ev rfl) (Y.ev rfl) rfl aa Z (i:=1) rfl rfl rfl fun _ Z=>rV ?_;refine sv Y (ah aa aa (Y.ev rfl) (Z.cellsAll (i:=1) rfl)) fun _ Y=>?_;refine sw Y Z 2 fun _ Z=>?_;refine ag (ai (wp_ret ?_));refine ni Y rfl rfl Z (i:=2) rfl aa aa ?_;have q:=(Z.toRow (i:=0) (n:=0) (sz:=3) rfl rfl au).ownB (i:=0) rfl;exact⟨some ⟨j,0,none⟩,0,rfl,q,Z.below⟩
theorem nO (r:RngP) (A:Option Addr) (c:Nat) (w:World) (hr:Rd w w.heap.size A (aW r.rs)) (f:r.rs.length≤1000) :
 Calls Tryz.prog 44 #[bm r A c] w fun e b=>∃h c',e=.returned (bm r h c')∧b.ownsRow w.heap.size 177 3 (.slice h r.rs.length c') r.rs.length (aW r.rs)∧Below w.heap.size w b:=by
 rcases Nat.eq_zero_or_pos r.rs.length with a | a
 · exact Ao r A c w (List.eq_nil_of_length_eq_zero a)
 refine an (N:=11) Tryz.func44 rfl rfl rfl (fun _ a=>?_);have Z:=St.init w;refine aj (aq ?_);refine nb a rfl rfl Z fun b1 _ _ l Y Z=>na (.agg gU) Y rfl Z fun o _ _ s Y Z=>rV ?_;refine sv Y (ah aa aa (Y.ev rfl) (Z.cellsAll (i:=1) rfl)) fun _ Y=>?_;refine na (.agg gU) Y rfl Z fun t _ _ m Y Z=>sw Y Z 0 fun _ Z=>?_;refine rV ?_;refine dc (zc:=oU) (sz:=3) Y (wn rfl) ⟨rfl,rfl⟩ rfl dv aa aa rfl rfl rfl (Y.evs2 rfl) rfl rfl rfl Z fun p _ _ q Y Z=>vf Y 7 7 fun _ Y=>?_;refine GO 1 ?_;intro _ Y;have Z:=Z.toRow (i:=0) (n:=0) (sz:=3) rfl rfl au;refine bS (z:=.agg kr) (sz:=3) (bytes:=32) Y (wn rfl) ⟨rfl,rfl⟩ rfl dv aa rfl rfl (Y.ev rfl) (Y.ev rfl) Z (i:=0) rfl (Z.rd0 hr) (bF r.rs) (s7 r.rs) ⟨ab,by decide⟩ fun k j _ _ Y Z=>?_;refine vf Y 7 7 fun _ Y=>?_;refine aS Y (wn rfl) ⟨rfl,rfl⟩ (Y.ev rfl) (Y.ev rfl) rfl aa Z (i:=1) rfl rfl rfl fun _ Z=>?_;rw[Nat.zero_add] at Z;refine rV ?_;refine sv Y (ah aa aa (Y.ev rfl) (Z.cellsAll (i:=1) rfl)) fun _ Y=>?_;refine sw Y Z 2 fun _ Z=>?_;refine ag (ai (wp_ret ?_));refine ni Y rfl rfl Z (i:=2) rfl aa aa ?_;exact⟨k,j,rfl,Z.ownB (i:=0) rfl,Z.below⟩
theorem zd (x y:RecP):kP [ae x.l,ae x.s,.string x.b] [ae y.l,ae y.s,.string y.b]=decide (x=y):=by
 obtain⟨a,b,c⟩:=x;obtain⟨a',b',c'⟩:=y;rw[Bool.eq_iff_iff];simp[kP,vY]
theorem tB (r t:RngP) (A M:Option Addr) (c c':Nat) (w:World) (hr:Rd w w.heap.size A (aW r.rs)) (ht:Rd w w.heap.size M (aW t.rs)) (Q:r.rs.length≤1000) (D:t.rs.length≤1000) :
 bu 49 #[bm r A c,bm t M c'] w (.bool (decide (r=t))):=by
 refine an (N:=59) Tryz.func49 rfl rfl rfl (fun _ Y=>?_);have Z:=St.init w;refine aj (aq ?_);refine nb Y rfl rfl Z fun b2 _ _ Zp n Z=>nb n rfl rfl Z fun b3 _ _ Zq q Z=>GO 6 ?_;intro _ h3;refine GO 1 ?_;intro _ p;refine GO 1 ?_;intro _ y;refine GO 4 ?_;intro _ Y;apply bI Y Z 11 rfl 6 17
 case hf=>
  intro z;refine GO 1 ?_;intro _ Y;refine aU (v:=sb r.r) Y (ao Y _ rfl rfl rfl z) (ah aa aa (Y.ev rfl) (Z.cellsOf (i:=1) rfl 1 3)) rfl rfl fun _ Y=>GO 1 ?_;intro _ Y;refine aU (v:=sb t.r) Y (ao Y _ rfl rfl rfl z) (ah aa aa (Y.ev rfl) (Z.cellsOf (i:=0) rfl 1 3)) rfl rfl fun _ Y=>sy Y (ke (ks:=[.i .i64,.i .i64,.i .i64]) aa xg aa (Y.ev rfl) (Y.ev rfl) rfl rfl) fun _ Y=>?_;refine GO 1 ?_;intro _ Y;exact ag ⟨Y.midE 5,Z⟩
 case ht=>
  intro z;refine GO 6 ?_;intro _ Y;exact ag ⟨Y.midE 5,Z⟩
 case h=>
  rintro R Zr ⟨Zs,u⟩
  refine GO 1 ?_;intro _ Y;apply bI Y u 18 rfl 6 24
  case hf=>
   intro H;refine sy Y (fx 4 4 (Y.ev rfl)) fun _ Y=>?_;refine aU (v:=sb r.e) Y (ao Y _ rfl rfl rfl H) (ah aa aa (Y.ev rfl) (u.cellsOf (i:=1) rfl 4 3)) rfl rfl fun _ Y=>sy Y (fx 4 4 (Y.ev rfl)) fun _ Y=>?_;refine aU (v:=sb t.e) Y (ao Y _ rfl rfl rfl H) (ah aa aa (Y.ev rfl) (u.cellsOf (i:=0) rfl 4 3)) rfl rfl fun _ Y=>sy Y (ke (ks:=[.i .i64,.i .i64,.i .i64]) aa xg aa (Y.ev rfl) (Y.ev rfl) rfl rfl) fun _ Y=>?_;refine GO 1 ?_;intro _ Y;exact ag ⟨Y.midE 5,u⟩
  case ht=>
   intro H;refine GO 6 ?_;intro _ Y;exact ag ⟨Y.midE 5,u⟩
  case h=>
   rintro T Zt ⟨Zu,J⟩
   refine GO 1 ?_;intro _ Y;apply bI Y J 25 rfl 6 31
   case hf=>
    intro S;refine sy Y (fx 8 8 (Y.ev rfl)) fun _ Y=>?_;refine GO 1 ?_;intro _ Y;refine sy Y (fx 8 8 (Y.ev rfl)) fun _ Y=>?_;refine GO 3 ?_;intro _ Y;exact ag ⟨Y.midE 5,J⟩
   case ht=>
    intro S;refine GO 6 ?_;intro _ Y;exact ag ⟨Y.midE 5,J⟩
   case h=>
    rintro Jv Zv ⟨Zw,G⟩
    refine GO 1 ?_;intro _ Y;apply bI Y G 32 rfl 8 40
    case hf=>
     intro V;refine sy Y (fx 7 7 (Y.ev rfl)) fun _ Y=>?_;refine GO 2 ?_;intro _ Y;refine sy Y (fx 7 7 (Y.ev rfl)) fun _ Y=>?_;refine GO 4 ?_;intro _ Y;exact ag ⟨Y.midE 7,G⟩
    case ht=>
     intro V;refine GO 8 ?_;intro _ Y;exact ag ⟨Y.midE 7,G⟩
    case h=>
     rintro Jw Zx ⟨W,I⟩
     refine ag (ai ?_);refine ak (W.ev rfl) (fun x=>?_) (fun x=>?_)
     ·
      have hne:r≠t:=by
       rintro rfl
       simp only[Bool.or_eq_true,bne_iff_ne] at x;rcases x with (((h | h) | h) | h) | h
       · exact h rfl
       · have a:(!kP [ae r.r.s,ae r.r.c,ae r.r.o] [ae r.r.s,ae r.r.c,ae r.r.o])=true:=h
         rw[ki] at a;simp at a
       · have a:(!kP [ae r.e.s,ae r.e.c,ae r.e.o] [ae r.e.s,ae r.e.c,ae r.e.o])=true:=h
         rw[ki] at a;simp at a
       · exact h rfl
       · exact h rfl
      refine GO 7 ?_;intro _ Y;refine aC Y rfl rfl ?_;exact⟨by rw[decide_eq_false hne],I.below⟩
     ·
      have O:r.pg=t.pg∧r.r=t.r∧r.e=t.e∧r.nx=t.nx∧r.rs.length=t.rs.length:=by
       simp only[Bool.or_eq_false_iff,bne_eq_false_iff_eq] at x;obtain⟨⟨⟨⟨n,q⟩,h3⟩,p⟩,y⟩:=x;have a:(!kP [ae r.r.s,ae r.r.c,ae r.r.o] [ae t.r.s,ae t.r.c,ae t.r.o])=false:=q;have e2:(!kP [ae r.e.s,ae r.e.c,ae r.e.o] [ae t.e.s,ae t.e.c,ae t.e.o])=false:=h3;rw[ki] at a e2;exact⟨n,al a,al e2,p,by omega⟩
      refine GO 9 ?_;intro _ Y;refine aV Y I [3,2] (fun (k:Nat)=>[(5,ae (k:Int))]) (fun (k:Nat)=>k≤r.rs.length∧r.rs.take k=t.rs.take k) (fun (k:Nat) L=>L) (fun (k:Nat)=>r.rs.length-k) (0) (⟨Nat.zero_le _,rfl⟩) bC (I) ?_;intro k _ _ K Y Z;refine GO 4 ?_;intro _ Y;refine vf Y 7 7 fun _ Y=>?_;refine GO 5 ?_;intro _ Y;refine ak (Y.ev rfl) (fun C=>?_) (fun C=>?_)
      ·
       have j:k<r.rs.length:=by have:=of_decide_eq_true C;omega
       have f:k<t.rs.length:=by omega
       obtain⟨b,o,rfl,_⟩:=hr.opened (by rw[bF];omega);obtain⟨b',o',rfl,_⟩:=ht.opened (by rw[bF];omega);refine wp_skip (ai (aj (wp_block (aj ?_))));apply aK Y (fK 10) _ aa
       case h=>
        refine qv Y (fun X m=>fx 7 7 (Y.ev rfl)) fun _ Y=>?_;refine GO 2 ?_;intro _ Y;refine qv Y (fun X m=>ar (i:=k) (sz:=3) dv aa (Y.ev rfl) (Y.ev rfl) ab ab rfl) fun _ Y=>?_;refine qv (v:=l8 r.rs[k]) Y (fun X m=>ah aa aa (Y.ev rfl) (recAt ((Z.grow m).rd0 hr) j)) fun _ Y=>?_;refine qv Y (fun X m=>fx 7 7 (Y.ev rfl)) fun _ Y=>?_;refine GO 2 ?_;intro _ Y;refine qv Y (fun X m=>ar (i:=k) (sz:=3) dv aa (Y.ev rfl) (Y.ev rfl) ab ab rfl) fun _ Y=>?_;refine qv (v:=l8 t.rs[k]) Y (fun X m=>ah aa aa (Y.ev rfl) (recAt ((Z.grow m).rd0 ht) f)) fun _ Y=>?_;refine ax ?_;refine aT fun _ U Zo=>?_;have Z:=Z.grow U;refine sv Y (ke (ks:=[.i .i64,.i .i64,.s]) aa Tryz.underlying177 aa (Y.ev rfl) (Y.ev rfl) rfl rfl) fun _ Y=>?_;refine ag (ai ?_);refine ak (Y.ev rfl) (fun B=>?_) (fun B=>?_)
        ·
         have hne:r≠t:=by
          rintro rfl
          have a:(!kP [ae r.rs[k].l,ae r.rs[k].s,.string r.rs[k].b] [ae r.rs[k].l,ae r.rs[k].s,.string r.rs[k].b])=true:=B;rw[zd] at a;simp at a
         refine GO 11 ?_;intro _ Y;refine aC Y rfl rfl ?_;exact⟨by rw[decide_eq_false hne],Z.below⟩
        ·
         have F:r.rs[k]=t.rs[k]:=by
          have a:(!kP [ae r.rs[k].l,ae r.rs[k].s,.string r.rs[k].b] [ae t.rs[k].l,ae t.rs[k].s,.string t.rs[k].b])=false:=B;rw[zd] at a;simpa using a
         refine GO 9 ?_;intro _ Y;exact⟨k+1,ab,⟨j,by rw[List.take_add_one,List.take_add_one,K.2,List.getElem?_eq_getElem j,List.getElem?_eq_getElem f,F]⟩,Y.re bC,Z⟩
       case hB=>kernel_rfl
       case hst=>rfl
      ·
       have E:k=r.rs.length:=by have:=of_decide_eq_false C;omega
       have heq:r=t:=by
        have n:=K.2;rw[E,List.take_length,O.2.2.2.2,List.take_length] at n;obtain⟨p1,p2,p3,p4,p5⟩:=r;obtain⟨q1,q2,q3,q4,q5⟩:=t;obtain⟨q,h3,p,y,_⟩:=O;simp only at n q h3 p y;rw[n,q,h3,p,y]
       refine GO 11 ?_;intro _ Y;refine aC Y rfl rfl ?_;exact⟨by rw[decide_eq_true heq],Z.below⟩
open Go.RowKit Go.Sort
theorem su (r:RngP) (A:Option Addr) (c:Nat) (s:ByteArray) (w:World) (hr:Rd w w.heap.size A (aW r.rs)) (u:OkP r) (hs:s.size≤1000000) :
 Calls Tryz.prog 119 #[bm r A c,.string s] w fun e H=>∃I c',e=.returned (.tuple #[bm (fT r s) I c',ae (if fw r s=0 then r.nx+1 else 0),ae (fw r s)])∧H.ownsRow w.heap.size 177 3 (.slice I (fT r s).rs.length c') (fT r s).rs.length (aW (fT r s).rs)∧Below w.heap.size w H:=by
 have p:r.rs.length≤1000:=by have:=u.h.len;omega
 have L:=u.h.nx;have ho:=u.o1;have O:=u.h.pg;refine an (N:=67) Tryz.func119 rfl rfl rfl (fun _ Y=>?_);have Z:=St.init w;refine aj (aq ?_);refine nb Y rfl rfl Z fun b2 _ _ Zm Y Z=>na (.agg gU) Y rfl Z fun b4 _ _ Zn Y Z=>GO 6 ?_;intro _ Y;refine sv Y (az (zs:=pk) (pl:=pr) aa aa (Y.evs2 rfl) rfl rfl) fun _ Y=>?_;refine na (.agg gU) Y rfl Z fun b7 _ _ Zo Y Z=>sw Y Z 0 fun _ Z=>?_;refine GO 10 ?_;intro _ Y;refine ak (Y.ev rfl) (fun x=>?_) (fun x=>?_)
 ·
  have hf:fw r s=17:=by
   have:s.size=0:=by have:=eq_of_beq x;omega
   unfold fw;rw[if_pos this]
  have e3:fT r s=eF:=by unfold fT;rw[if_neg (by rw[hf];decide)]
  refine aj (aq ?_);refine sv Y (ah aa aa (Y.ev rfl) (Z.cellsAll (i:=0) rfl)) fun _ Y=>?_;refine sw Y Z 1 fun _ Z=>?_;refine GO 6 ?_;intro _ Y;refine l6 Y rfl rfl rfl rfl Z (i:=1) rfl aa aa ?_;exact⟨none,0,by rw[hf,e3];rfl,by rw[e3];exact World.ownsRow_nil _ _ _ _,Z.below⟩
 ·
  have j:¬s.size=0:=by
   intro h;rw[h] at x;exact absurd x au
  refine GO 9 ?_;intro _ Y;apply bI Y Z 19 rfl 5 24
  case hf=>
   intro Zf;refine sy Y (fx 7 7 (Y.ev rfl)) fun _ Y=>?_;refine GO 4 ?_;intro _ Y;exact ag ⟨Y.midE 4,Z⟩
  case ht=>
   intro Zf;refine GO 5 ?_;intro _ Y;exact ag ⟨Y.midE 4,Z⟩
  case h=>
   rintro V Zp ⟨o,t⟩
   refine ag (ai ?_);refine ak (o.ev rfl) (fun C=>?_) (fun C=>?_)
   ·
    have hf:fw r s=8:=by
     unfold fw;rw[if_neg j];by_cases h:3000<s.size
     · rw[if_pos h]
     · rw[if_neg h,if_pos]
       have M:decide ((s.size:Int)>3000)=false:=by rw[decide_eq_false_iff_not];omega
       rw[M,Bool.false_or,decide_eq_true_eq] at C;omega
    have e3:fT r s=eF:=by unfold fT;rw[if_neg (by rw[hf];decide)]
    refine aj (aq ?_);refine sv o (ah aa aa (o.ev rfl) (t.cellsAll (i:=0) rfl)) fun _ Y=>?_;refine sw Y t 1 fun _ Z=>?_;refine GO 6 ?_;intro _ Y;refine l6 Y rfl rfl rfl rfl Z (i:=1) rfl aa aa ?_;exact⟨none,0,by rw[hf,e3];rfl,by rw[e3];exact World.ownsRow_nil _ _ _ _,Z.below⟩
   ·
    have G:s.size≤3000∧r.rs.length<100:=by
     rw[Bool.or_eq_false_iff,decide_eq_false_iff_not,decide_eq_false_iff_not] at C;omega
    have Q:=mb G.1;have B:Bfr ⟨r.nx+1,r.r.s,s⟩:=⟨by show 1≤r.nx+1;omega,by show r.nx+1≤500000000;omega,G.1⟩
    have W:r.rs.length+1=(r.rs ++ [(⟨r.nx+1,r.r.s,s⟩:RecP)]).length:=by simp
    refine wp_skip (ai (aj (aq ?_)));refine sv (v:=bm r A c) o (ah aa aa (o.ev rfl) (t.cellsAll (i:=2) rfl)) fun _ Y=>?_;refine u6 Y (wn rfl) (aw a6 (Y.evs rfl) rfl) rfl rfl t (nO r A c _ (t.rd0 hr) p) (Nat.le_refl _) fun Jv J _ _ Y Z=>na (.agg gU) Y rfl Z fun b8 _ _ Zq Y Z=>sw Y Z 0 fun _ Z=>?_;refine rV ?_;refine vf Y 7 7 fun _ Y=>?_;refine GO 1 ?_;intro _ Y;refine vf Y 8 8 fun _ Y=>?_;refine GO 3 ?_;intro _ Y;refine vf Y 0 1 fun _ Y=>?_;refine GO 2 ?_;intro _ Y;refine sv (v:=l8 ⟨r.nx+1,r.r.s,s⟩) Y (az (zs:=oU) (pl:=fY) aa aa (Y.evs2 rfl) rfl rfl) fun _ Y=>?_;refine dc (cs:=recC ⟨r.nx+1,r.r.s,s⟩) (zc:=oU) (sz:=3) Y (wn rfl) ⟨rfl,rfl⟩ rfl dv aa aa rfl rfl rfl (Y.evs2 rfl) rfl rfl rfl Z fun K _ _ Zl Y Z=>bS (z:=.agg kr) (sz:=3) (bytes:=32) Y (wn rfl) ⟨rfl,rfl⟩ rfl dv aa rfl rfl (Y.ev rfl) (Y.ev rfl) Z (i:=2) rfl (Z.boxRd (i:=0) rfl) rfl (List.all_eq_true.1 rfl) ⟨ab,by decide⟩ fun b a _ _ Y Z=>?_;refine vf Y 7 7 fun _ Y=>?_;refine aS Y (wn rfl) ⟨rfl,rfl⟩ (Y.ev rfl) (Y.ev rfl) rfl aa Z (i:=1) rfl rfl rfl fun _ Z=>?_;rw[W] at Y Z;refine rV ?_;refine vf Y 8 8 fun _ Y=>?_;refine GO 3 ?_;intro _ Y;refine dn Y rfl (k6 _ _ ab _) fun _ Y=>?_;refine vf Y 8 8 fun _ Y=>?_;refine aS Y (wn rfl) ⟨rfl,rfl⟩ (Y.ev rfl) (Y.ev rfl) rfl aa Z (i:=1) rfl rfl rfl fun _ Z=>ag (ai (aj (aj (aq ?_))));refine sv (v:=bm (de r s) b a) Y (ah aa aa (Y.ev rfl) (Z.cellsAll (i:=1) rfl)) fun _ Y=>?_;refine cQ Y rfl Z (rq (de r s) b a _ (by have q:=Z.rdOf (i:=2) rfl;exact(by unfold de;rw[hZ];exact q)) (fun y F=>by(have:y=⟨r.nx+1,r.r.s,s⟩:=by unfold de at F;simpa using F.symm);rw[this];exact B) (.inr ho) (by unfold de;simp;omega)) fun _ _ Y Z=>?_
    refine GO 15 ?_;intro _ Y;apply bI Y Z 57 rfl 4 61
    case hf=>
     intro Zh;refine sy Y (fx 8 8 (Y.ev rfl)) fun _ Y=>?_;refine GO 3 ?_;intro _ Y;exact ag ⟨Y.midE 3,Z⟩
    case ht=>
     intro Zh;refine GO 4 ?_;intro _ Y;exact ag ⟨Y.midE 3,Z⟩
    case h=>
     rintro T Zr ⟨l,f⟩
     refine ag (ai ?_);refine ak (l.ev rfl) (fun E=>?_) (fun E=>?_)
     ·
      have hf:fw r s=16:=by
       unfold fw;rw[if_neg j,if_neg ab,if_neg ab];exact if_pos (show r.pg-2<(eL (de r s)).2∨100000000<r.nx+kQ s.size by simpa [Bool.or_eq_true] using E)
      have e3:fT r s=eF:=by unfold fT;rw[if_neg (by rw[hf];decide)]
      refine aj (aq ?_);refine sv l (ah aa aa (l.ev rfl) (f.cellsAll (i:=3) rfl)) fun _ Y=>?_;refine sw Y f 4 fun _ Z=>?_;refine GO 6 ?_;intro _ Y;refine l6 Y rfl rfl rfl rfl Z (i:=4) rfl aa aa ?_;exact⟨none,0,by rw[hf,e3];rfl,by rw[e3];exact World.ownsRow_nil _ _ _ _,Z.below⟩
     ·
      have hf:fw r s=0:=by
       unfold fw;rw[if_neg j,if_neg ab,if_neg ab];exact if_neg (show ¬(r.pg-2<(eL (de r s)).2∨100000000<r.nx+kQ s.size) by simpa [Bool.or_eq_false_iff,not_or] using E)
      have e3:fT r s=de r s:=by unfold fT;rw[if_pos hf]
      refine wp_skip (ai (aj ?_));apply gB (m:=4) l (St.domAt f (i:=4) rfl) 0 [false,false,false,false,true] _ aa
      case h=>
       refine qv (v:=bm (de r s) b a) l (fun X n=>ah aa aa (l.ev rfl) ((f.growO (i:=4) rfl n).cellsAll (i:=1) rfl)) fun _ Y=>?_;refine qv Y (fun X n=>fx 8 8 (Y.ev rfl)) fun _ Y=>?_;refine qv Y (fun X n=>lx (Y.ev rfl) ((f.growO (i:=4) rfl n).cell (i:=5) rfl rfl)) fun _ Y=>?_;refine GO 2 ?_;intro _ Y;apply iw (k:=4) (deps:=[]) (R:=IsBox _ _ _) Y rfl rfl IsBox.stable (fun X n hΦ=>ij rfl (Y.ev rfl) (Y.ev rfl) rfl aa ((f.grow n).at_ (i:=4) rfl) rfl rfl);intro D;refine k5 fun _ Zj S=>?_;have Z:=f.growBox (i:=4) (v:=D) rfl Zj (aD S (k:=4) rfl);refine GO 5 ?_;intro _ Y;refine l6 Y rfl rfl rfl rfl Z (i:=4) rfl aa aa ?_;refine⟨b,a,by rw[hf,e3];rfl,?_,Z.below⟩;rw[e3];have q:=Z.ownB (i:=2) rfl;have U:aW (de r s).rs=aW r.rs ++ aW [(⟨r.nx+1,r.r.s,s⟩:RecP)]:=hZ _ _;rw[U];exact q
      case hB=>kernel_rfl
      case hst=>rfl
theorem bc (a:Int) (l:List Int):av (a::l)=if a=0 then av l else a:=by
 by_cases h:a=0
 · rw[if_pos h,h];rfl
 · rw[if_neg h];simp[av,h]
variable {ds:List Deferred}
open Go.RowKit Go.Sort
variable {ds:List Deferred}
theorem js {r:RngP} {e:Int} (h:fD r=e) (a:e≠0):cn r=(0,e):=by
 unfold cn;rw[if_pos (by rw[h];exact a),h]
theorem k9 {r:RngP} {k:Nat} {e:Int} (j:fD r=0) (f:k<r.rs.length) (a:∀m (hm:m<r.rs.length),m<k→fe r.r.o r.r.s (cd r.rs m) r.rs[m]=0) (h:fe r.r.o r.r.s (cd r.rs k) r.rs[k]=e) (c:e≠0):cn r=((k:Int),e):=by
 have Y:=dU (fun i x=>fe r.r.o r.r.s (cd r.rs i) x) r.rs 0 k f (fun m hm b=>by rw[Nat.zero_add];exact a m hm b) (by rw[Nat.zero_add,h];exact c);rw[Nat.zero_add,h] at Y;have Y:kH r=((k:Int),e):=Y;unfold cn;rw[if_neg (by rw[j];decide),Y,if_pos c]
theorem CG {r:RngP} (b:fD r=0) (a:∀m (hm:m<r.rs.length),fe r.r.o r.r.s (cd r.rs m) r.rs[m]=0):cn r=(0,kS r):=by
 have Y:=dx (fun i x=>fe r.r.o r.r.s (cd r.rs i) x) r.rs 0 (fun m hm=>by rw[Nat.zero_add];exact a m hm);have Y:kH r=(0,0):=Y;unfold cn;rw[if_neg (by rw[b];decide),Y,if_neg au]
def atR (r:RngP) (k:Nat):Int:=match cd r.rs k with
 | none=>r.r.o-1
 | some y=>fb y
def F7 (r:RngP) (k:Nat):Int:=match cd r.rs k with
 | none=>0
 | some y=>y.s
theorem qi {l:List RecP} {k:Nat} (b:0<k) (a:k≤l.length):∃y,cd l k=some y:=by
 unfold cd;rw[if_neg ab,List.getElem?_eq_getElem ab];exact⟨_,rfl⟩
theorem BL (r:RngP) (j:r.r.o≤100000000) (f:r.rs.length≤1000) (k:Nat) (n:k≤r.rs.length) (h:∀m (hm:m<r.rs.length),m<k→fe r.r.o r.r.s (cd r.rs m) r.rs[m]=0):∀y,cd r.rs k=some y→Bfr y∧y.l≤104000000∧1≤y.s∧y.s≤r.r.s:=fun y b=>by
 unfold cd at b
 split at b
 · cases b
 · rename_i p
   have a:k-1<r.rs.length:=by omega
   rw[List.getElem?_eq_getElem a] at b;injection b with b;have c:=mI r j (k-1) a (fun m hm i=>h m hm ab);have e:=(recE_zero.1 (h (k-1) a ab)).2.2.2.1;rw[inB_true] at e;rw[b] at c e;exact⟨⟨c.1,by omega,c.2.2⟩,by omega,e⟩
theorem C9 {r:RngP} {k:Nat} {x:RecP} (c:k≤r.rs.length) (f:1≤x.s):(decide (x.s<F7 r k)||(decide ((k:Int)>0)&&decide (x.s>F7 r k)&&((x.l-1) % 448 != 0)))=!seqB (cd r.rs k) x:=by
 unfold F7;rcases Nat.eq_zero_or_pos k with b | b
 · subst b
   have:cd r.rs 0=none:=rfl;rw[this];simp only[seqB];simp;omega
 · obtain⟨y,e⟩:=qi b c
   rw[e];simp only[seqB];rw[decide_eq_true (show(k:Int)>0 by omega),Bool.true_and];rcases Int.lt_trichotomy x.s y.s with h | h | h
   · have a:(x.s==y.s)=false:=by rw[beq_eq_false_iff_ne];omega
     rw[decide_eq_true h,a,decide_eq_false (show ¬y.s<x.s by omega)];rfl
   · rw[h,decide_eq_false (show ¬y.s<y.s by omega)];simp
   · have a:(x.s==y.s)=false:=by rw[beq_eq_false_iff_ne];omega
     rw[decide_eq_false (show ¬x.s<y.s by omega),a,decide_eq_true h];simp[bne]
theorem wH {l:List RecP} {k:Nat} (h:k<l.length):cd l (k+1)=some l[k]:=by
 unfold cd;rw[if_neg ab,show k+1-1=k by omega,List.getElem?_eq_getElem h]
theorem GQ {o:Int} {f:Option RecP} {x:RecP} (h:gR o f x=true) (b:o≤100000000) (hf:∀y,f=some y→Bfr y):1≤x.l∧x.l≤700000001:=by
 cases f with
 | none=>
  simp only[gR,Bool.and_eq_true,beq_iff_eq,decide_eq_true_eq] at h;omega
 | some y=>
  have a:=(hf y rfl).bd;simp only[gR,Bool.or_eq_true,beq_iff_eq] at h;omega
theorem tk {r:RngP} {e:Int} (h:gK r=e) (a:e≠0):kS r=e:=by
 unfold kS;rw[bc,if_neg (by rw[h];exact a),h]
theorem qQ (r:RngP) (A:Option Addr) (c:Nat) (w:World) (hr:Rd w w.heap.size A (aW r.rs)) (B:r.rs.length≤1000) (hx:∀x∈r.rs,I6 x.l) :
 bu 177 #[bm r A c] w (.tuple #[ae (cn r).1,ae (cn r).2]):=by
 refine an (N:=208) Tryz.func177 rfl rfl rfl (fun _ h0=>?_);have Z:=St.init w;refine aj (aq ?_);refine nb h0 rfl rfl Z fun b1 _ _ Jq M Z=>GO 1 ?_;intro _ h2;refine GO 8 ?_;intro _ Y;refine dn Y rfl (sA _ _) fun _ Y=>?_;refine GO 9 ?_;intro _ Y;refine ak (Y.ev rfl) (fun Qo=>?_) (fun Qo=>?_)
 ·
  have a:cn r=(0,kJ r.pg):=js (by unfold fD;rw[bc,if_neg (al Qo)]) (al Qo);refine GO 9 ?_;intro _ Y;refine bU Y rfl rfl rfl ?_;exact⟨by rw[a],Z.below⟩
 ·
  have z:kJ r.pg=0:=al Qo;refine GO 6 ?_;intro _ Y;refine sv (v:=sb r.r) Y (ah aa aa (Y.ev rfl) (Z.cellsOf (i:=0) rfl 1 3)) fun _ Y=>?_;refine cQ Y rfl Z (kt r.r _) fun _ _ Y Zx=>?_;refine GO 9 ?_;intro _ Y;refine ak (Y.ev rfl) (fun Qp=>?_) (fun Qp=>?_)
  ·
   have a:cn r=(0,gl r.r):=js (by unfold fD;rw[bc,if_pos z,bc,if_neg (al Qp)]) (al Qp);refine GO 9 ?_;intro _ Y;refine bU Y rfl rfl rfl ?_;exact⟨by rw[a],Zx.below⟩
  ·
   have E:gl r.r=0:=al Qp;have Wd:=uB ((aH au).1 E);refine wp_skip (ai (aj (aj (aq ?_))));refine vf Y 4 4 fun _ Y=>?_;refine sv (v:=sb r.e) Y (ah aa aa (Y.ev rfl) (Zx.cellsOf (i:=0) rfl 4 3)) fun _ Y=>?_;refine sv (v:=sb rst0) Y (az (zs:=lJ) (pl:=fY) aa aa (Y.evs2 rfl) rfl rfl) fun _ Y=>?_;refine sv Y (ke (ks:=[.i .i64,.i .i64,.i .i64]) aa xg aa (Y.ev rfl) (Y.ev rfl) rfl rfl) fun _ Qq=>?_;refine ag (ai ?_);refine mF (F:=kC r=0) Qq Zx [] [1] ?_ (fun _ _ Y Z C=>?_)
   ·
    refine ak (Qq.ev rfl) (fun Qt=>?_) (fun Qt=>?_)
    ·
     have hne:¬r.e=rst0:=by
      have H:(!kP [ae r.e.s,ae r.e.c,ae r.e.o] [ae rst0.s,ae rst0.c,ae rst0.o])=true:=Qt;rw[ki] at H;simpa using H
     refine aj (aj (aq ?_));refine vf Qq 4 4 fun _ Y=>?_;refine sv (v:=sb r.e) Y (ah aa aa (Y.ev rfl) (Zx.cellsOf (i:=0) rfl 4 3)) fun _ Y=>?_;refine cQ Y rfl Zx (kt r.e _) fun _ _ Y Z=>?_;refine GO 9 ?_;intro _ Y;refine ak (Y.ev rfl) (fun Zy=>?_) (fun Zy=>?_)
     ·
      have R:kC r=gl r.e:=by unfold kC;rw[if_neg hne,bc,if_neg (al Zy)]
      have a:cn r=(0,gl r.e):=js (by unfold fD;rw[bc,if_pos z,bc,if_pos E,bc,if_neg (by rw[R];simpa using Zy),R]) (al Zy);refine GO 11 ?_;intro _ Y;refine bU Y rfl rfl rfl ?_;exact⟨by rw[a],Z.below⟩
     ·
      have Vg:gl r.e=0:=al Zy;refine wp_skip (ai (aj (aq ?_)));refine vf Y 4 4 fun _ Y=>?_;refine vf Y 0 4 fun _ Y=>?_;refine GO 2 ?_;intro _ Y;refine vf Y 0 1 fun _ Y=>?_;refine GO 5 ?_;intro _ Y;refine ak (Y.ev rfl) (fun Qu=>?_) (fun Qu=>?_)
      ·
       have a:cn r=(0,9):=js (by
        have:(r.e.s==r.r.s-1)=false:=by rw[beq_eq_false_iff_ne];simpa using Qu
        unfold fD kC;rw[bc,if_pos z,bc,if_pos E,bc,if_neg hne,bc,if_pos Vg,bc,this];rfl) au
       refine GO 9 ?_;intro _ Y;refine bU Y rfl rfl rfl ?_;exact⟨by rw[a],Z.below⟩
      ·
       have C:kC r=0:=by
        have:(r.e.s==r.r.s-1)=true:=by rw[beq_iff_eq];simpa using Qu
        unfold kC;rw[if_neg hne,bc,if_pos Vg,bc,this];rfl
       refine wp_skip (ai ?_);exact⟨Y.re ⟨rfl,trivial⟩,Z,C⟩
    ·
     have Vh:r.e=rst0:=by
      have H:(!kP [ae r.e.s,ae r.e.c,ae r.e.o] [ae rst0.s,ae rst0.c,ae rst0.o])=false:=Qt;rw[ki] at H;simpa using H
     have C:kC r=0:=by unfold kC;rw[if_pos Vh]
     refine wp_skip (ai ?_);exact⟨Qq.re ⟨rfl,trivial⟩,Zx,C⟩
   ·
    refine ai (aj (aj (aq ?_)));refine vf Y 8 8 fun _ Y=>?_;refine GO 1 ?_;intro _ Y;refine dn Y rfl (jl _ _) fun _ Y=>?_;refine GO 2 ?_;intro _ Y;apply bI Y Z 47 rfl 5 52
    case hf=>
     intro Zz;refine sy Y (fx 8 8 (Y.ev rfl)) fun _ Y=>?_;refine GO 1 ?_;intro _ Y;refine sy Y (lV (Y.ev rfl) (Y.ev rfl) ⟨by have:=inB_true.1 (by simpa using Zz:kB r.nx=true);omega,by omega⟩) fun _ Y=>?_;refine GO 2 ?_;intro _ Y;exact ag ⟨Y.midE 4,Z⟩
    case ht=>
     intro Zz;refine GO 5 ?_;intro _ Y;exact ag ⟨Y.midE 4,Z⟩
    case h=>
     rintro We Jr ⟨Ja,Qr⟩
     refine ag (ai ?_);refine ak (Ja.ev rfl) (fun U=>?_) (fun U=>?_)
     ·
      have a:cn r=(0,2):=js (by
       have:(kB r.nx&&r.nx % 8==0)=false:=by
        cases h:kB r.nx with
        | false=>rfl
        | true=>
         rw[h] at U
         simpa [bne] using U
       unfold fD;rw[bc,if_pos z,bc,if_pos E,bc,if_pos C,bc,this];rfl) au
      refine GO 8 ?_;intro _ Y;refine bU Y rfl rfl rfl ?_;exact⟨by rw[a],Qr.below⟩
     ·
      have V:(kB r.nx&&r.nx % 8==0)=true:=by
       cases h:kB r.nx with
       | false=>rw[h] at U;simp at U
       | true=>
        rw[h] at U
        simpa [bne] using U
      have Wa:=inB_true.1 (Bool.and_eq_true_iff.1 V).1;refine wp_skip (ai (aj (aj (aq ?_))));refine vf Ja 7 7 fun _ Y=>?_;refine GO 5 ?_;intro _ Y;refine ak (Y.ev rfl) (fun Qv=>?_) (fun Qv=>?_)
      ·
       have a:cn r=(0,8):=js (by
        have Y:(r.rs.length:Int)>100:=of_decide_eq_true Qv
        have:decide (r.rs.length≤100)=false:=by rw[decide_eq_false_iff_not];omega
        unfold fD;rw[bc,if_pos z,bc,if_pos E,bc,if_pos C,bc,V,if_pos (mW 2),bc,this];rfl) au
       refine GO 8 ?_;intro _ Y;refine bU Y rfl rfl rfl ?_;exact⟨by rw[a],Qr.below⟩
      ·
       have Y:r.rs.length≤100:=by have:=of_decide_eq_false Qv;omega
       have W:fD r=0:=by
        unfold fD;rw[bc,if_pos z,bc,if_pos E,bc,if_pos C,bc,V,if_pos (mW 2),bc,decide_eq_true Y];rfl
       refine GO 5 ?_;intro _ Y;refine vf Y 2 3 fun _ Y=>?_;refine GO 13 ?_;intro _ Y;refine aV Y Qr [1] (fun (k:Nat)=>[(9,ae (k:Int)),(7,ae (atR r k)),(8,ae (F7 r k))]) (fun (k:Nat)=>k≤r.rs.length∧∀m (hm:m<r.rs.length),m<k→fe r.r.o r.r.s (cd r.rs m) r.rs[m]=0) (fun (k:Nat) L=>L) (fun (k:Nat)=>r.rs.length-k) (0) (⟨Nat.zero_le _,fun m hm h=>by omega⟩) bC (Qr) ?_;intro k _ _ Jb Y Zn;refine GO 4 ?_;intro _ Y;refine vf Y 7 7 fun _ Y=>?_;refine GO 5 ?_;intro _ Y;refine ak (Y.ev rfl) (fun Qw=>?_) (fun Qw=>?_)
       ·
        have j:k<r.rs.length:=by have:=of_decide_eq_true Qw;omega
        obtain⟨b,o,rfl,_⟩:=hr.opened (by rw[bF];omega);obtain⟨_,f⟩:=Jb;have Vd:=BL r ab B k ab f;have Vo:I6 r.rs[k].l:=hx _ (List.getElem_mem j);unfold I6 at Vo;refine wp_skip (ai (aj (wp_block (aj (aq ?_)))));refine vf Y 7 7 fun _ Y=>?_;refine GO 2 ?_;intro _ Y;refine sv Y (ar (i:=k) (sz:=3) dv aa (Y.ev rfl) (Y.ev rfl) ab ab rfl) fun _ Y=>?_;refine sv (v:=l8 r.rs[k]) Y (ah aa aa (Y.ev rfl) (recAt (Zn.rd0 hr) j)) fun _ Y=>?_;refine na (.agg kr) Y rfl Zn fun Wg _ _ Jf Y Z=>?_;refine sw Y Z 0 fun _ Zo=>?_;refine GO 11 ?_;intro _ Y;refine ak (Y.ev rfl) (fun Qs=>?_) (fun Qs=>?_)
        ·
         have a:cn r=((k:Int),17):=k9 W j f (by unfold fe;rw[if_pos (by have:=eq_of_beq Qs;omega)]) au;refine GO 14 ?_;intro _ Y;refine bU Y rfl rfl rfl ?_;exact⟨by rw[a],Zo.below⟩
        ·
         have Vf:¬r.rs[k].b.size=0:=by intro h;rw[h] at Qs;exact absurd Qs au
         refine GO 11 ?_;intro _ Y;refine ak (Y.ev rfl) (fun Qx=>?_) (fun Qx=>?_)
         ·
          have a:cn r=((k:Int),8):=k9 W j f (by unfold fe;rw[if_neg Vf,if_pos (by have:=of_decide_eq_true Qx;omega)]) au;refine GO 14 ?_;intro _ Y;refine bU Y rfl rfl rfl ?_;exact⟨by rw[a],Zo.below⟩
         ·
          have Wb:r.rs[k].b.size≤3000:=by have:=of_decide_eq_false Qx;omega
          have D:fe r.r.o r.r.s (cd r.rs k) r.rs[k]=if gR r.r.o (cd r.rs k) r.rs[k]=false then 9 else if bB r.rs[k].s 1 r.r.s=false then 2 else bQ (seqB (cd r.rs k) r.rs[k]) 9:=by
           conv=>lhs;unfold fe
           rw[if_neg Vf,if_neg ab]
          refine GO 9 ?_;intro _ Ze;refine mF (F:=gR r.r.o (cd r.rs k) r.rs[k]=true) Ze Zo [] [84,83,81,80,79,78,76,75,74,73,10,72,71,70,69,68,65,64,63,62,61,9,7,8,1] ?_ (fun _ _ Y Z t=>?_)
          ·
           refine ak (Ze.ev rfl) (fun Zi=>?_) (fun Zi=>?_)
           ·
            have Jv:k=0:=by have:=eq_of_beq Zi;omega
            have J:cd r.rs k=none:=by rw[Jv];rfl
            have u:atR r k=r.r.o-1:=by unfold atR;rw[J]
            rw[u] at Ze;refine GO 5 ?_;intro _ Y;refine vf Y 2 3 fun _ Y=>?_;refine GO 3 ?_;intro _ Y;apply bI Y Zo 91 rfl 3 94
            case hf=>
             intro Qy;refine GO 3 ?_;intro _ Y;exact ag ⟨Y.midE 2,Zo⟩
            case ht=>
             intro Qy;refine GO 3 ?_;intro _ Y;exact ag ⟨Y.midE 2,Zo⟩
            case h=>
             rintro Vr Jg ⟨Jh,Zp⟩
             refine GO 1 ?_;intro _ Y;apply bI Y Zp 95 rfl 4 99
             case hf=>
              intro Qa;refine GO 1 ?_;intro _ Y;refine sy Y (lV (Y.ev rfl) (Y.ev rfl) ⟨by rw[Bool.or_eq_false_iff,decide_eq_false_iff_not] at Qa;omega,by omega⟩) fun _ Y=>?_;refine GO 2 ?_;intro _ Y;exact ag ⟨Y.midE 3,Zp⟩
             case ht=>
              intro Qa;refine GO 4 ?_;intro _ Y;exact ag ⟨Y.midE 3,Zp⟩
             case h=>
              rintro Vv Ji ⟨Zq,Qb⟩
              refine ag (ai ?_);refine ak (Zq.ev rfl) (fun O=>?_) (fun O=>?_)
              ·
               have a:cn r=((k:Int),9):=k9 W j f (by
                rw[D,if_pos];rw[J];simp only[gR]
                cases M:(r.rs[k].l==r.r.o) with
                | false=>rfl
                | true=>
                 have H:(r.rs[k].l != r.r.o)=false:=by unfold bne;rw[M];rfl
                 rw[H,Bool.false_or] at O;by_cases h2:r.r.o-1<0
                 · rw[decide_eq_false ab];rfl
                 · rw[decide_eq_false h2,Bool.false_or] at O
                   rw[decide_eq_true ab]
                   have e2:((r.r.o-1) % 8==0)=false:=by
                    unfold bne at O;simpa using O
                   rw[e2];rfl) au
               refine GO 15 ?_;intro _ Y;refine bU Y rfl rfl rfl ?_;exact⟨by rw[a],Qb.below⟩
              ·
               have t:gR r.r.o (cd r.rs k) r.rs[k]=true:=by
                rw[Bool.or_eq_false_iff,Bool.or_eq_false_iff,decide_eq_false_iff_not,bne_eq_false_iff_eq,bne_eq_false_iff_eq] at O;rw[J];simp only[gR];rw[O.1.1,decide_eq_true ab,O.2];simp
               refine wp_skip (ai ?_);rw[←u] at Zq;exact⟨Zq.re bC,Qb,t⟩
           ·
            have Jv:0<k:=by
             have:¬(k:Int)=0:=by intro h;rw[h] at Zi;exact absurd Zi au
             omega
            obtain⟨y,G⟩:=qi Jv (by omega:k≤r.rs.length);have Jx:=Vd y G;have Vj:=Jx.1.bd
            have u:atR r k=fb y:=by unfold atR;rw[G]
            rw[u] at Ze;refine aj ?_;apply aK Ze (fK 12) _ aa
            case h=>
             refine GO 3 ?_;intro _ Y;refine qv Y (fun X K=>cM (Y.ev rfl) (Y.ev rfl) ⟨by omega,by omega⟩) fun _ Y=>?_;refine GO 2 ?_;intro _ Y;apply lR Y 106 rfl 6 112
             case ht=>
              intro Zl;refine GO 3 ?_;intro _ Y;refine pM Y (ao Y _ rfl rfl rfl Zl) rfl rfl (fun X=>(aw a6 (Y.evs rfl) rfl)) (fun X K=>pY _ ab _) fun _ Y=>?_;refine qy Y (fun X K=>(cM (Y.ev rfl) (Y.ev rfl) ⟨by omega,by omega⟩)) fun _ Y=>?_;refine GO 1 ?_;intro _ Y;exact ax (Y.midE 5)
             case hf=>
              intro Zl;refine GO 6 ?_;intro _ Y;exact ax ⟨_,Y.midE 5⟩
             case h=>
              intro Vw _ T Y;refine ax ?_;refine aT fun _ Qc Jc=>?_;have Z:=Zo.grow Qc;refine sv Y (eK (Y.ev rfl) (Y.ev rfl) T (Y.ev rfl)) fun _ Y=>?_;refine ag (ai ?_);refine ak (Y.ev rfl) (fun Zr=>?_) (fun Zr=>?_)
              ·
               have a:cn r=((k:Int),9):=k9 W j f (by
                rw[D,if_pos];rw[G];simp only[gR];rw[Bool.and_eq_true,bne_iff_ne,bne_iff_ne] at Zr;rw[Bool.or_eq_false_iff,beq_eq_false_iff_ne,beq_eq_false_iff_ne]
                omega) au
               refine GO 15 ?_;intro _ Y;refine bU Y rfl rfl rfl ?_;exact⟨by rw[a],Z.below⟩
              ·
               have t:gR r.r.o (cd r.rs k) r.rs[k]=true:=by
                rw[G];simp only[gR];rw[Bool.or_eq_true,beq_iff_eq,beq_iff_eq];by_cases M:r.rs[k].l=fb y+1
                · omega
                · have H:(r.rs[k].l != fb y+1)=true:=by rw[bne_iff_ne];exact M
                  rw[H,Bool.true_and,bne_eq_false_iff_eq] at Zr;omega
               refine wp_skip (ai ?_);rw[←u] at Y;exact⟨Y.re bC,Z,t⟩
            case hB=>kernel_rfl
            case hst=>rfl
          ·
           have Wf:=GQ t ab (fun y G=>(Vd y G).1);rw[if_neg (by rw[t];decide)] at D;refine GO 7 ?_;intro _ Y;refine vf Y 0 1 fun _ Y=>?_;refine GO 1 ?_;intro _ Y;refine dn Y rfl (br _ _ _ _) fun _ Y=>?_;refine GO 3 ?_;intro _ Y;refine ak (Y.ev rfl) (fun Zs=>?_) (fun Zs=>?_)
           ·
            have a:cn r=((k:Int),2):=k9 W j f (by
             rw[D,if_pos (al Zs)]) au
            refine GO 14 ?_;intro _ Y;refine bU Y rfl rfl rfl ?_;exact⟨by rw[a],Z.below⟩
           ·
            have Vc:bB r.rs[k].s 1 r.r.s=true:=al Zs;have Ve:=inB_true.1 Vc;rw[if_neg (by rw[Vc];decide)] at D;have Jz:=C9 (x:=r.rs[k]) (by omega:k≤r.rs.length) Ve.1;refine GO 10 ?_;intro _ Y;apply bI Y Z 127 rfl 16 143
            case hf=>
             intro Qd;refine GO 3 ?_;intro _ Y;apply a8 Y Z 130 rfl 5 135
             case ht=>
              intro Qe;refine GO 5 ?_;intro _ Y;exact ag ⟨Y.midE 4,Z⟩
             case hf=>
              intro Qe;refine GO 5 ?_;intro _ Y;exact ag ⟨Y.midE 4,Z⟩
             case h=>
              rintro Vy Jj ⟨Jk,Zt⟩
              refine GO 1 ?_;intro _ Y;apply a8 Y Zt 136 rfl 6 142
              case ht=>
               intro Qf;refine GO 2 ?_;intro _ Y;refine sy Y (fN (Y.ev rfl) (Y.ev rfl) ⟨by omega,by omega⟩) fun _ Y=>?_;refine sy Y (lV (Y.ev rfl) (Y.ev rfl) ⟨by omega,by omega⟩) fun _ Y=>?_;refine GO 2 ?_;intro _ Y;exact ag ⟨Y.midE 5,Zt⟩
              case hf=>
               intro Qf;refine GO 6 ?_;intro _ Y;exact ag ⟨Y.midE 5,Zt⟩
              case h=>
               rintro Vz Jl ⟨Jm,Qz⟩
               refine GO 1 ?_;intro _ Y;exact ag ⟨Y.midE 6,Qz⟩
            case ht=>
             intro Qd;refine GO 3 ?_;intro _ Y;refine cw Y (aE Y _ rfl rfl rfl) rfl rfl fun _ Y=>cw Y (aE Y _ rfl rfl rfl) rfl rfl fun _ Y=>cw Y (aE Y _ rfl rfl rfl) rfl rfl fun _ Y=>cw Y (aE Y _ rfl rfl rfl) rfl rfl fun _ Y=>GO 2 ?_;intro _ Y;refine cw Y (aE Y _ rfl rfl rfl) rfl rfl fun _ Y=>cw Y (aE Y _ rfl rfl rfl) rfl rfl fun _ Y=>cw Y (aE Y _ rfl rfl rfl) rfl rfl fun _ Y=>cw Y (aE Y _ rfl rfl rfl) rfl rfl fun _ Y=>cw Y (aE Y _ rfl rfl rfl) rfl rfl fun _ Y=>GO 2 ?_;intro _ Y;exact ag ⟨Y.midE 15,Z⟩
            case h=>
             rintro Vt Jn ⟨Qg,Zu⟩
             refine ag (ai ?_);refine ak (Qg.ev rfl) (fun Zf=>?_) (fun Zf=>?_)
             ·
              have a:cn r=((k:Int),9):=k9 W j f (by
               rw[Jz] at Zf
               rw[D,show seqB (cd r.rs k) r.rs[k]=false by simpa using Zf];rfl) au
              refine GO 14 ?_;intro _ Y;refine bU Y rfl rfl rfl ?_;exact⟨by rw[a],Zu.below⟩
             ·
              have Jy:∀m (hm:m<r.rs.length),m<k+1→fe r.r.o r.r.s (cd r.rs m) r.rs[m]=0:=fun m hm Wc=>by
               rcases Nat.lt_or_ge m k with h | h
               · exact f m hm h
               · have e:m=k:=by omega
                 subst e;rw[Jz] at Zf;rw[D,show seqB (cd r.rs m) r.rs[m]=true by simpa using Zf];rfl
              have Vk:∀w,gQ 188 #[ae (r.rs[k].l-1),ae r.rs[k].b.size] w (ae (atR r (k+1))):=fun w=>by
               have q:=k6 (r.rs[k].l-1) r.rs[k].b.size ab w
               have e:atR r (k+1)=r.rs[k].l-1+kQ r.rs[k].b.size:=by unfold atR;rw[wH j];rfl
               rw[e];exact q
              refine wp_skip (ai ?_);apply aK Qg (fK 10) _ aa
              case h=>
               refine GO 2 ?_;intro _ Y;refine qv Y (fun X K=>fN (Y.ev rfl) (Y.ev rfl) ⟨by omega,by omega⟩) fun _ Y=>?_;refine GO 3 ?_;intro _ Y;refine iW Y rfl (fun X K=>Vk _) fun _ Y=>?_;refine GO 1 ?_;intro _ Y;refine qv Y (fun X K=>aA (v':=ae (F7 r (k+1))) (by unfold F7;rw[wH j]) (lx (Y.ev rfl) ((Zu.grow K).cell (i:=0) rfl rfl))) fun _ Y=>?_;refine GO 2 ?_;intro _ Y;refine aT fun _ Qh Jd=>?_;have Z:=Zu.grow Qh;refine GO 10 ?_;intro _ Y;exact⟨k+1,ab,⟨j,Jy⟩,Y.re bC,Z.sub (aB 2)⟩
              case hB=>kernel_rfl
              case hst=>rfl
       ·
        have Vl:k=r.rs.length:=by have:=of_decide_eq_false Qw;omega
        subst Vl;have f:∀m (hm:m<r.rs.length),fe r.r.o r.r.s (cd r.rs m) r.rs[m]=0:=fun m hm=>Jb.2 m hm hm;have I:=CG W f;have Vi:=wj r ab B f
        have Vm:r.rs=[]∨(1≤r.r.o∧r.r.o≤100000000):=by
         rcases Nat.eq_zero_or_pos r.rs.length with h0 | h0
         · exact .inl (List.eq_nil_of_length_eq_zero h0)
         · right
           have:=(recE_zero.1 (f 0 h0)).2.2.1;have J:cd r.rs 0=none:=rfl;rw[J] at this;simp only[gR,Bool.and_eq_true,beq_iff_eq,decide_eq_true_eq] at this;omega
        refine wp_exit ?_;refine ed ?_;refine ed ?_;refine pL ?_;refine ai (aj (aj (aq ?_)));refine vf Y 7 7 fun _ Y=>?_;refine GO 5 ?_;intro _ Q;refine mF (F:=gK r=0) Q Zn [] [1] ?_ (fun _ _ Y Z n=>?_)
        ·
         refine ak (Q.ev rfl) (fun Zj=>?_) (fun Zj=>?_)
         ·
          have S:r.rs=[]:=List.eq_nil_of_length_eq_zero (by have:=eq_of_beq Zj;omega)
          have u:atR r r.rs.length=r.r.o-1:=by rw[S];rfl
          have hne:gK r=bQ (r.nx==r.r.o-1&&r.nx % 448==0) 9:=by unfold gK;rw[S];rfl
          rw[u] at Q;refine aj (aq ?_);refine vf Q 8 8 fun _ Y=>?_;refine GO 4 ?_;intro _ Y;apply bI Y Zn 162 rfl 5 167
          case hf=>
           intro Qi;refine sy Y (fx 8 8 (Y.ev rfl)) fun _ Y=>?_;refine GO 1 ?_;intro _ Y;refine sy Y (lV (Y.ev rfl) (Y.ev rfl) ⟨by omega,by omega⟩) fun _ Y=>?_;refine GO 2 ?_;intro _ Y;exact ag ⟨Y.midE 4,Zn⟩
          case ht=>
           intro Qi;refine GO 5 ?_;intro _ Y;exact ag ⟨Y.midE 4,Zn⟩
          case h=>
           rintro Vs Jo ⟨Qj,Qk⟩
           refine ag (ai ?_);refine ak (Qj.ev rfl) (fun Zg=>?_) (fun Zg=>?_)
           ·
            have a:cn r=(0,9):=by
             rw[I,tk (e:=9) _ au];rw[hne]
             have:(r.nx==r.r.o-1&&r.nx % 448==0)=false:=by
              rw[Bool.and_eq_false_iff,beq_eq_false_iff_ne,beq_eq_false_iff_ne];rw[Bool.or_eq_true,bne_iff_ne,bne_iff_ne] at Zg;exact Zg
             rw[this];rfl
            refine GO 9 ?_;intro _ Y;refine bU Y rfl rfl rfl ?_;exact⟨by rw[a],Qk.below⟩
           ·
            have n:gK r=0:=by
             rw[hne]
             have:(r.nx==r.r.o-1&&r.nx % 448==0)=true:=by
              rw[Bool.and_eq_true,beq_iff_eq,beq_iff_eq];rw[Bool.or_eq_false_iff,bne_eq_false_iff_eq,bne_eq_false_iff_eq] at Zg;exact Zg
             rw[this];rfl
            refine wp_skip (ai ?_);exact⟨Qj.re ⟨rfl,trivial⟩,Qk,n⟩
         ·
          have Vb:0<r.rs.length:=by
           have:¬(r.rs.length:Int)=0:=by intro h;rw[h] at Zj;exact absurd Zj au
           omega
          obtain⟨y,G⟩:=qi Vb (Nat.le_refl _)
          have Vp:r.rs.getLast? = some y:=by
           unfold cd at G;rw[if_neg ab] at G;rw[List.getLast?_eq_getElem?];exact G
          have Jx:=BL r ab B r.rs.length (Nat.le_refl _) (fun m hm _=>f m hm) y G;have Vj:=Jx.1.bd
          have u:atR r r.rs.length=fb y:=by unfold atR;rw[G]
          have Vn:F7 r r.rs.length=y.s:=by unfold F7;rw[G]
          have hne:gK r=bQ ((r.nx==fb y||r.nx==gp (fb y))&&(y.s==r.r.s||r.nx % 448==0)) 9:=by unfold gK;rw[Vp]
          have Vq:=pQ (p:=fb y);rw[u,Vn] at Q;refine aj ?_;apply aK Q (fK 17) _ aa
          case h=>
           refine qv Q (fun X K=>fx 8 8 (Q.ev rfl)) fun _ Y=>?_;refine GO 2 ?_;intro _ Y;refine iW Y rfl (fun X K=>pY _ ab _) fun _ Y=>?_;refine GO 2 ?_;intro _ Y;apply lR Y 173 rfl 11 184
           case ht=>
            intro Ql;refine qy Y (fun X K=>(fx 8 8 (Y.ev rfl))) fun _ Y=>?_;refine GO 4 ?_;intro _ Y;apply fZ Y 178 rfl 6 184
            case hf=>
             intro Qm;refine GO 2 ?_;intro _ Y;refine qy Y (fun X K=>(fx 0 1 (Y.ev rfl))) fun _ Y=>?_;refine GO 3 ?_;intro _ Y;exact ax (Y.midE 5)
            case ht=>
             intro Qm;refine GO 6 ?_;intro _ Y;exact ax (Y.midE 5)
            case h=>
             intro _ Y;exact ax (Y.midE 5)
           case hf=>
            intro Ql;refine GO 5 ?_;intro _ Y;refine nv Y (aE Y _ rfl rfl rfl) rfl rfl fun _ Y=>nv Y (aE Y _ rfl rfl rfl) rfl rfl fun _ Y=>nv Y (aE Y _ rfl rfl rfl) rfl rfl fun _ Y=>nv Y (aE Y _ rfl rfl rfl) rfl rfl fun _ Y=>nv Y (aE Y _ rfl rfl rfl) rfl rfl fun _ Y=>GO 1 ?_;intro _ Y;exact ax ⟨_,Y.midE 10⟩
           case h=>
            intro Vx _ Jw Y;refine ax ?_;refine aT fun _ Qn Je=>?_;have Z:=Zn.grow Qn;refine sv Y (eK (Y.ev rfl) (Y.ev rfl) Jw (Y.ev rfl)) fun _ Y=>?_;refine ag (ai ?_);refine ak (Y.ev rfl) (fun Zc=>?_) (fun Zc=>?_)
            ·
             have a:cn r=(0,9):=by
              rw[I,tk (e:=9) _ au];rw[hne]
              have:((r.nx==fb y||r.nx==gp (fb y))&&(y.s==r.r.s||r.nx % 448==0))=false:=by
               simp only[Bool.and_eq_true,Bool.or_eq_true,bne_iff_ne,decide_eq_true_eq] at Zc;rw[Bool.and_eq_false_iff,Bool.or_eq_false_iff,Bool.or_eq_false_iff,beq_eq_false_iff_ne,beq_eq_false_iff_ne,beq_eq_false_iff_ne,beq_eq_false_iff_ne];by_cases M:r.nx=fb y
               · right
                 refine⟨by omega,fun h2=>Zc.1 ?_⟩;rw[M] at h2 ⊢;unfold gp;omega
               · exact .inl ⟨M,Zc.1⟩
              rw[this];rfl
             refine GO 9 ?_;intro _ Y;refine bU Y rfl rfl rfl ?_;exact⟨by rw[a],Z.below⟩
            ·
             have n:gK r=0:=by
              rw[hne]
              have:((r.nx==fb y||r.nx==gp (fb y))&&(y.s==r.r.s||r.nx % 448==0))=true:=by
               simp only[Bool.and_eq_true,Bool.or_eq_true,beq_iff_eq];rw[Bool.and_eq_false_iff,Bool.or_eq_false_iff,bne_eq_false_iff_eq,bne_eq_false_iff_eq,decide_eq_false_iff_not] at Zc;rcases Zc with h | ⟨M,h2⟩
               · exact⟨.inr h,.inr (by rw[h];exact Vq.2.2)⟩
               · exact⟨.inl M,.inl ab⟩
              rw[this];rfl
             refine wp_skip (ai ?_);exact⟨Y.re ⟨rfl,trivial⟩,Z,n⟩
          case hB=>kernel_rfl
          case hst=>rfl
        ·
         refine GO 5 ?_;intro _ Y;refine vf Y 1 2 fun _ Y=>?_;refine GO 3 ?_;intro _ Y;apply a8 Y Z 190 rfl 7 197
         case ht=>
          intro Zh;refine aU (v:=bm r A c) Y (ao Y _ rfl rfl rfl Zh) (ah aa aa (Y.ev rfl) (Z.cellsAll (i:=0) rfl)) rfl rfl fun _ Y=>GO 1 ?_;intro _ Y;refine sy Y (fx 1 2 (Y.ev rfl)) fun _ Y=>?_;refine GO 1 ?_;intro _ Y;refine dO Y (ao Y _ rfl rfl rfl Zh) (aw a6 (Y.evs rfl) rfl) rfl rfl Z (CZ r A c r.r.c _ (Z.rd0 hr) B) fun _ _ Y Z=>GO 2 ?_;intro _ Y;exact ag ⟨Y.midE 6,Z⟩
         case hf=>
          intro Zh;refine GO 7 ?_;intro _ Y;exact ag ⟨Y.midE 6,Z⟩
         case h=>
          rintro Vu Jp ⟨Zv,Zk⟩
          refine ag (ai ?_);refine ak (Zv.ev rfl) (fun Zd=>?_) (fun Zd=>?_)
          ·
           have a:cn r=(0,6):=by
            rw[I];unfold kS;rw[bc,if_pos n,bc]
            have:(r.r.c==0||pF r.rs r.r.c)=false:=by
             rw[Bool.and_eq_true,bne_iff_ne] at Zd;rw[Bool.or_eq_false_iff,beq_eq_false_iff_ne];exact⟨Zd.1,al Zd.2⟩
            rw[this];rfl
           refine GO 8 ?_;intro _ Y;refine bU Y rfl rfl rfl ?_;exact⟨by rw[a],Zk.below⟩
          ·
           have Va:(r.r.c==0||pF r.rs r.r.c)=true:=by
            by_cases h:r.r.c=0
            · rw[h];rfl
            · have H:(r.r.c != 0)=true:=by rw[bne_iff_ne];exact h
              rw[H,Bool.true_and] at Zd;rw[show pF r.rs r.r.c=true by simpa using Zd];simp
           refine wp_skip (ai (aj (aj (aq ?_))));refine sv (v:=bm r A c) Zv (ah aa aa (Zv.ev rfl) (Zk.cellsAll (i:=0) rfl)) fun _ Y=>?_;refine cQ Y rfl Zk (rq r A c _ (Zk.rd0 hr) Vi Vm B) fun _ _ Y Z=>?_;refine GO 12 ?_;intro _ Y;refine sv Y (fN (Y.ev rfl) (Y.ev rfl) ⟨by have:=inB_true.1 ((aH au).1 z);omega,by have:=inB_true.1 ((aH au).1 z);omega⟩) fun _ Y=>?_;refine GO 3 ?_;intro _ Y;refine ak (Y.ev rfl) (fun Zw=>?_) (fun Zw=>?_)
           ·
            have a:cn r=(0,16):=by
             rw[I];unfold kS;rw[bc,if_pos n,bc,Va,if_pos (mW 6),bc,decide_eq_false (by have:=of_decide_eq_true Zw;omega)];rfl
            refine GO 8 ?_;intro _ Y;refine bU Y rfl rfl rfl ?_;exact⟨by rw[a],Z.below⟩
           ·
            have a:cn r=(0,0):=by
             rw[I];unfold kS;rw[bc,if_pos n,bc,Va,if_pos (mW 6),bc,decide_eq_true (by have:=of_decide_eq_false Zw;omega)];rfl
            refine GO 9 ?_;intro _ Y;refine bU Y rfl rfl rfl ?_;exact⟨by rw[a],Z.below⟩
theorem uw (r:RngP) (A:Option Addr) (c:Nat) (w:World) (hr:Rd w w.heap.size A (aW r.rs)) (a:r.rs.length≤1000) (hx:∀x∈r.rs,I6 x.l) :
 bu 109 #[bm r A c] w (ae (cn r).2):=by
 refine an (N:=11) Tryz.func109 rfl rfl rfl (fun _ Y=>?_);have Z:=St.init w;refine aj (aq ?_);refine nb Y rfl rfl Z fun b1 _ _ b Y Z=>GO 5 ?_;intro _ Y;refine sv (v:=bm r A c) Y (ah aa aa (Y.ev rfl) (Z.cellsAll (i:=0) rfl)) fun _ Y=>?_;refine cQ Y rfl Z (qQ r A c _ (Z.rd0 hr) a hx) fun _ _ Y Z=>?_;refine GO 14 ?_;intro _ Y;refine aC Y rfl rfl ?_;exact⟨rfl,Z.below⟩
open Go.RowKit Go.Sort
open Go.RowKit Go.Sort
def HO:RngP:=⟨6,⟨1,0,1⟩,rst0,[],0⟩
def Gb:RngP:=de HO (bs [97,98,99])
def Gq:RngP:=de Gb (bs (cp 500))
def Gp:RngP:=H3 Gq
def BE:RngP:=de Gp (bs [120])
def Gd:RngP:=IE BE 0 897
def Hu:RngP:=de Gd (bs (cp 900))
def Ht:RngP:=H3 BE
attribute [local irreducible] Gb Gq Gp BE
open Go.RowKit Go.Sort
attribute [local irreducible] Gd Hu Ht
open Go.ChangeShapes Go.WideShapes Go.ChangeAt Go.RowKit
def Il (x:RstP):List Value:=[ae x.s,ae x.c,ae x.o]
def Hb (x:RstP):Prop:=(-9223372036854775808≤x.s∧x.s<9223372036854775808)∧(-9223372036854775808≤x.c∧x.c<9223372036854775808)∧(-9223372036854775808≤x.o∧x.o<9223372036854775808)
theorem wf_i64 {n:Int} (h:(Lit.int .i64 n).wf=true):-9223372036854775808≤n∧n<9223372036854775808:=by
 have a:(decide (IntKind.i64.min≤n)&&decide (n≤IntKind.i64.max))=true:=h
 have b:IntKind.i64.min = -9223372036854775808:=by decide
 have e2:IntKind.i64.max=9223372036854775807:=by decide
 rw[b,e2,Bool.and_eq_true,decide_eq_true_eq,decide_eq_true_eq] at a;omega
theorem wY {H:Type} {enc:TypeId × Value→H} {W:World} {a:Nat} {cs:List Value} {x:DataW H × List MemPlace} (j:cs.length=3)
 (h:DataW.trod enc Tryz.prog W 0 (fun _=>true) true a 70 cs=some x):∃y,cs=Il y∧Hb y:=by
 obtain⟨xs,k,s,p,_,b,hf⟩:=DataW.trod_struct xg h
 match xs,b,cs,j with
 | [y0,y1,y2],_,[c0,c1,c2],_=>
  have m:Tryz.prog.cellsOf 3=1:=by kernel_rfl
  have c:=hf 0 _ rfl;have f:=hf 1 _ rfl;have e:=hf 2 _ rfl;simp[m] at c f e;obtain⟨o,e0,_,q⟩:=DataW.trod_int eO c;obtain⟨n,i,_,b1⟩:=DataW.trod_int eO f;obtain⟨r,e2,_,l⟩:=DataW.trod_int eO e;simp only[List.cons.injEq,and_true] at e0 i e2;exact⟨⟨o,n,r⟩,by rw[e0,i,e2];rfl,wf_i64 q,wf_i64 b1,wf_i64 l⟩
structure RngA where
 r:RngP
 A:Option Addr
 c:Nat
def Iu (x:RngA):List Value:=[ae x.r.pg,ae x.r.r.s,ae x.r.r.c,ae x.r.r.o,ae x.r.e.s,ae x.r.e.c,ae x.r.e.o,.slice x.A x.r.rs.length x.c,ae x.r.nx]
structure RngI (r:RngP):Prop where
 pg:-9223372036854775808≤r.pg∧r.pg<9223372036854775808
 rr:Hb r.r
 ee:Hb r.e
 nx:-9223372036854775808≤r.nx∧r.nx<9223372036854775808
 len:r.rs.length≤maxLen
 rs:∀x∈r.rs,(-9223372036854775808≤x.l∧x.l<9223372036854775808)∧(-9223372036854775808≤x.s∧x.s<9223372036854775808)∧x.b.size≤maxLen
theorem zN (l:List RecP):l.flatMap (fun x=>[Value.int .i64 x.l,ae x.s,.string x.b])=aW l:=by
 unfold aW;first | rfl | (rw[List.flatMap_def];rfl)
theorem Ay {H:Type} {enc:TypeId × Value→H} {W:World} {a:Nat} {cs:List Value} {x:DataW H × List MemPlace}
 (h:DataW.trod enc Tryz.prog W 0 (fun _=>true) true a 71 cs=some x):∃(A:Option Addr) (c:Nat) (l:List RecP),cs=[.slice A l.length c]∧l.length≤maxLen∧Rd W W.heap.size A (aW l)∧∀x∈l,(-9223372036854775808≤x.l∧x.l<9223372036854775808)∧(-9223372036854775808≤x.s∧x.s<9223372036854775808)∧x.b.size≤maxLen:=by
 obtain⟨A,c,l,n,B,h3,o⟩:=nQ (fun x:RecP=>[Value.int .i64 x.l,ae x.s,.string x.b]) 3 (fun _=>rfl) (fun x=>(-9223372036854775808≤x.l∧x.l<9223372036854775808)∧(-9223372036854775808≤x.s∧x.s<9223372036854775808)∧x.b.size≤maxLen) dv aa (fun a cs x q h=>by
  obtain⟨xs,k,C,w,_,e,hf⟩:=DataW.trod_struct Tryz.underlying177 h
  match xs,e,cs,q with
  | [y0,y1,y2],_,[c0,c1,c2],_=>
   have t:Tryz.prog.cellsOf 3=1:=by kernel_rfl
   have r:Tryz.prog.cellsOf 9=1:=by kernel_rfl
   have f:=hf 0 _ rfl;have j:=hf 1 _ rfl;have i:=hf 2 _ rfl;simp[t,r] at f j i;obtain⟨v,e0,_,y⟩:=DataW.trod_int eO f;obtain⟨u,m,_,b1⟩:=DataW.trod_int eO j;obtain⟨z,e2,_,p⟩:=DataW.trod_string dr i;simp only[List.cons.injEq,and_true] at e0 m e2
   exact⟨⟨v,u,z⟩,by rw[e0,m,e2],wf_i64 y,wf_i64 b1,p⟩) h
 rw[zN] at h3;exact⟨A,c,l,n,B,h3,o⟩
theorem A3 {H:Type} {enc:TypeId × Value→H} {W:World} {r:Reach} {a:Nat} {v:Value} {d:DataW H} {p:List MemPlace}
 (Y:Value.okWide Tryz.prog W r a 73 v) (h:DataW.Trod enc Tryz.prog W 0 (fun _=>true) true 73 v d p) :
 ∃(r:RngP) (A:Option Addr) (c:Nat),v=bm r A c∧RngI r∧Rd W W.heap.size A (aW r.rs):=by
 obtain⟨y,B,L,h3⟩:=wu (α:=RngA) Iu 9 (fun x=>RngI x.r∧Rd W W.heap.size x.A (aW x.r.rs)) Tryz.underlying73 aa (fun n cs x E h=>by
  obtain⟨xs,k,Z,R,_,i,hf⟩:=DataW.trod_struct Tryz.underlying73 h
  match xs,i,cs,E with
  | [y0,y1,y2,y3,y4],_,[c0,c1,c2,c3,c4,c5,c6,c7,c8],_=>
   have I:Tryz.prog.cellsOf 3=1:=by kernel_rfl
   have M:Tryz.prog.cellsOf 70=3:=by kernel_rfl
   have C:Tryz.prog.cellsOf 71=1:=by kernel_rfl
   have o:=hf 0 _ rfl;have t:=hf 1 _ rfl;have q:=hf 2 _ rfl;have s:=hf 3 _ rfl;have u:=hf 4 _ rfl;simp[I,M,C] at o t q s u;obtain⟨J,e0,_,T⟩:=DataW.trod_int eO o;obtain⟨O,z,b1⟩:=wY rfl t;obtain⟨U,e2,F⟩:=wY rfl q;obtain⟨D,Q,N,e3,V,G,K⟩:=Ay s;obtain⟨S,w,_,b4⟩:=DataW.trod_int eO u;simp only[Il,List.cons.injEq,and_true] at e0 z e2 e3 w;obtain⟨e,j,l⟩:=z;obtain⟨f,m,b⟩:=e2
   exact⟨⟨⟨J,O,U,N,S⟩,D,Q⟩,by rw[e0,e,j,l,f,m,b,e3,w];rfl,⟨wf_i64 T,b1,F,wf_i64 b4,V,K⟩,G⟩) Y h
 exact⟨y.r,y.A,y.c,B,L,h3⟩
variable {ds:List Deferred}
open Go.RowKit Go.Sort
variable {ds:List Deferred}
theorem E4 {P:Program} {ρ:Operand→Value} {X:World} {d:Option Tmp} {ty:TypeId} {ps:String} {af:Array Edge} {g:Option (Nat × Bool)} {x y:Operand} {t a:TypeId} {m n:Int} (hx:ρ x=ae m) (b:ρ y=ae n):(execOp ρ ⟨d,.binOp .add t x y a,ty,ps,af,g⟩).run P X=.ok (.value (ae (IntKind.i64.wrap (m+n)))) X:=by
 simp[execOp,hx,b,eqGuard,binOp,Op.intArith]
def xP (r:RngP):Nat→Int
 | 0=>0
 | k+1=>IntKind.i64.wrap (xP r k+(match r.rs[k]? with | some x=>(x.b.size:Int) | none=>0))
theorem Av {r:RngP} {k:Nat} (h:k<r.rs.length):xP r (k+1)=IntKind.i64.wrap (xP r k+(r.rs[k].b.size:Int)):=by
 rw[xP,List.getElem?_eq_getElem h]
def Ee (r:RngP):Bool:=(decide ((r.rs.length:Int)>20)&&decide ((r.rs.length:Int)≤100))||decide ((r.rs.length:Int)>102)
def Bj (r:RngP):Bool:=!Ee r&&decide (xP r r.rs.length≤12000)
theorem FF {r:RngP} (h:Bj r=true):r.rs.length≤20∨(101≤r.rs.length∧r.rs.length≤102):=by
 unfold Bj Ee at h;simp only[Bool.and_eq_true,Bool.not_eq_true',Bool.or_eq_false_iff,Bool.and_eq_false_iff,decide_eq_false_iff_not] at h;omega
theorem GR {r:RngP} (h:Bj r=true):r.rs.length≤1000:=by have:=FF h;omega
theorem EI (r:RngP) (A:Option Addr) (c:Nat) (w:World) (hr:Rd w w.heap.size A (aW r.rs)) :
 bu 41 #[bm r A c] w (.bool (Bj r)):=by
 refine an (N:=39) Tryz.func41 rfl rfl rfl (fun _ Y=>?_);have Z:=St.init w;refine aj (aq ?_);refine nb Y rfl rfl Z fun b1 _ _ y Y Z=>GO 6 ?_;intro _ Y;refine vf Y 7 7 fun _ Y=>?_;refine GO 4 ?_;intro _ Y;apply a8 Y Z 9 rfl 5 14
 case ht=>
  intro q;refine sy Y (fx 7 7 (Y.ev rfl)) fun _ Y=>?_;refine GO 4 ?_;intro _ Y;exact ag ⟨Y.midE 4,Z⟩
 case hf=>
  intro q;refine GO 5 ?_;intro _ Y;exact ag ⟨Y.midE 4,Z⟩
 case h=>
  rintro v z ⟨x,f⟩
  refine GO 1 ?_;intro _ Y;apply bI Y f 15 rfl 5 20
  case hf=>
   intro u;refine sy Y (fx 7 7 (Y.ev rfl)) fun _ Y=>?_;refine GO 4 ?_;intro _ Y;exact ag ⟨Y.midE 4,f⟩
  case ht=>
   intro u;refine GO 5 ?_;intro _ Y;exact ag ⟨Y.midE 4,f⟩
  case h=>
   rintro t B ⟨s,j⟩
   refine ag (ai ?_);refine ak (s.ev rfl) (fun m=>?_) (fun m=>?_)
   ·
    have e:Ee r=true:=m;refine GO 7 ?_;intro _ Y;refine aC Y rfl rfl ?_;refine⟨?_,j.below⟩;unfold Bj;rw[e];rfl
   ·
    have e:Ee r=false:=m
    have p:r.rs.length≤102:=by
     unfold Ee at e;simp only[Bool.or_eq_false_iff,decide_eq_false_iff_not] at e;omega
    refine GO 14 ?_;intro _ Y;refine aV Y j [2,1] (fun (k:Nat)=>[(4,ae (k:Int)),(3,ae (xP r k))]) (fun (k:Nat)=>k≤r.rs.length) (fun (k:Nat) L=>L) (fun (k:Nat)=>r.rs.length-k) (0) (Nat.zero_le _) bC (j) ?_;intro k _ _ C Y Z;refine GO 4 ?_;intro _ Y;refine vf Y 7 7 fun _ Y=>?_;refine GO 5 ?_;intro _ Y;refine ak (Y.ev rfl) (fun n=>?_) (fun n=>?_)
    ·
     have a:k<r.rs.length:=by have:=of_decide_eq_true n;omega
     obtain⟨b,o,rfl,_⟩:=hr.opened (by rw[bF];omega);refine GO 6 ?_;intro _ Y;refine vf Y 7 7 fun _ Y=>?_;refine GO 2 ?_;intro _ Y;refine sv Y (ar (i:=k) (sz:=3) dv aa (Y.ev rfl) (Y.ev rfl) ab ab rfl) fun _ Y=>?_;refine sv Y (fy 2 (Y.ev rfl)) fun _ Y=>?_;refine sv Y (lx (Y.ev rfl) ((recAt (Z.rd0 hr) a) 2 _ rfl)) fun _ Y=>?_;refine GO 1 ?_;intro _ Y;refine sv Y (aA (v':=ae (xP r (k+1))) (by rw[Av a]) (E4 (Y.ev rfl) (Y.ev rfl))) fun _ Y=>?_;refine GO 10 ?_;intro _ Y;exact⟨k+1,ab,a,Y.re bC,Z⟩
    ·
     have l:k=r.rs.length:=by have:=of_decide_eq_false n;omega
     refine GO 13 ?_;intro _ Y;refine aC Y rfl rfl ?_;refine⟨?_,Z.below⟩;unfold Bj;rw[e,l];rfl
end Go.Proofs.YtcfdpfmchchkaaaGreatDoor
