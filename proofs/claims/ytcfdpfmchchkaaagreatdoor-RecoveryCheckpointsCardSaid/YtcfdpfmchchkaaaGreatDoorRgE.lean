/- strings.Builder beside o -/
import Derived.Lib.Builder
import Derived.Lib.UnsafeStr
import Derived.Test.YtcfdpfmchchkaaaGreatDoorRgB
import Derived.Test.YtcfdpfmchchkaaaGreatDoorSplF
namespace Go.Proofs.YtcfdpfmchchkaaaGreatDoor
set_option maxRecDepth 100000
set_option maxHeartbeats 1000000
set_option linter.unusedVariables false
set_option linter.unusedSimpArgs false
open Go.RowKit Go.Sort
def Hp (used:Bool) (b:Nat):Value:=.pointer (if used then some ⟨b,0,none⟩ else none)
def Hw (b:Nat) (v:Value) (k:Nat):Prop:=k=b∨v.ownBlock=some k
structure BldOk (used:Bool) (b:Nat) (v:Value) (l:List UInt8) (X:World):Prop where
 box:Box X b #[Hp used b,v] 355
 row:X.ownsRow 0 5 1 v l.length (l.map bB)
 ne:v.ownBlock≠some b
 nz:v=.slice none 0 0∨l≠[]
theorem BldOk.stable {used:Bool} {b:Nat} {v:Value} {l:List UInt8} (X X':World) (h:BldOk used b v l X) (a:∀k,Hw b v k→X'.heap[k]? = X.heap[k]?):BldOk used b v l X':=
 ⟨(a b (.inl rfl)).trans h.box,Ent.ok_of (e:=.row v l.length 5 1 (l.map bB)) h.row (fun k c=>a k (.inr c)),h.ne,h.nz⟩
section
variable {P:Program} {ρ:Operand→Value} {X:World} {d:Option Tmp} {ty:TypeId} {ps:String} {af:Array Edge} {g:Option (Nat × Bool)}
end
open Go.RowKit Go.Sort
structure RdrP where
 s:List UInt8
 pg:Nat
 top:Int
def DS (R m G:Nat) (ks:List (Nat × Option Nat)) (b:Nat):Prop:=b=R∨b=m∨b=G∨∃q,(q,some b)∈ks
structure RdrRel (R m G:Nat) (k0:List (Nat × Option Nat)) (w0:World) (ks:List (Nat × Option Nat)) (X:World):Prop where
 sub:∀y∈k0,y∈ks
 same:∀b,DS R m G k0 b→b≠m→X.heap[b]? = w0.heap[b]?
theorem su {R m G:Nat} {k0 ks:List (Nat × Option Nat)} (h:∀y∈k0,y∈ks) {b:Nat} (c:DS R m G k0 b):DS R m G ks b:=by
 rcases c with a | a | a | ⟨q,a⟩
 · exact .inl a
 · exact .inr (.inl a)
 · exact .inr (.inr (.inl a))
 · exact .inr (.inr (.inr ⟨q,h _ a⟩))
theorem RdrRel.stable {R m G:Nat} {k0 ks:List (Nat × Option Nat)} {w0:World} (X X':World) (h:RdrRel R m G k0 w0 ks X) (e:∀b,DS R m G ks b→X'.heap[b]? = X.heap[b]?):RdrRel R m G k0 w0 ks X':=
 ⟨h.sub,fun b c a=>(e b (su h.sub c)).trans (h.same b c a)⟩
theorem RdrRel.refl {R m G:Nat} {ks:List (Nat × Option Nat)} {w:World}:RdrRel R m G ks w ks w:=⟨fun _ h=>h,fun _ _ _=>rfl⟩
theorem RdrRel.trans {R m G:Nat} {k0 c j:List (Nat × Option Nat)} {w0 i e:World} (h:RdrRel R m G k0 w0 c i) (k:RdrRel R m G c i j e):RdrRel R m G k0 w0 j e:=
 ⟨fun y l=>k.sub y (h.sub y l),fun b f a=>(k.same b (su h.sub f) a).trans (h.same b f a)⟩
theorem RdrRel.step {R m G:Nat} {k0 c e:List (Nat × Option Nat)} {w0 X X':World} (h:RdrRel R m G k0 w0 c X) (j:∀y∈c,y∈e) (k:∀b,b≠m→X'.heap[b]? = X.heap[b]?):RdrRel R m G k0 w0 e X':=
 ⟨fun y f=>j y (h.sub y f),fun b i a=>(k b a).trans (h.same b i a)⟩
structure RdrB (x:RdrP):Prop where
 len:x.s.length=512*x.pg
 pg:4≤x.pg∧x.pg≤40
 top:x.top≤60000
open Go.RowKit Go.Sort
theorem DV {s:List UInt8} {pg q:Nat} {top a:Int} {cs:List UInt8} (h:AZ s pg top q=some (a,cs)):cs.length≤448∧1≤a∧a≤top:=by
 unfold AZ at h
 split at h
 · cases h
 · split at h
   · rename_i b
     injection h with h;injection h with h2 h3;rw[Bool.and_eq_true,Bool.and_eq_true,inB_true,inB_true] at b;rw[←h2,←h3];have:=List.length_take_le (fw (CE (ou s (2+q % (pg-2)))) 12 2).toNat ((CE (ou s (2+q % (pg-2)))).drop 64);omega
   · cases h
structure ByS where
 c:Nat
 a:Nat
 l:List UInt8
 v:Value
 u:Bool
 ks:List (Nat × Option Nat)
open Go.RowKit Go.Sort
def Hk (x:RdrP) (b a:Int):Option RecP:=EC x.s x.pg x.top b a
open Go.RowKit Go.Sort
def GA (x:RdrP) (y:RecP):Option RecP:=Ez x.s x.pg x.top y
open Go.RowKit Go.Sort
open Go.RowKit Go.Sort
open Go.RowKit Go.Sort
theorem Ad {x:RdrP} {a f:Int} {y:RecP} (h:Hk x a f=some y):y.l=a+1∧0≤a∧a % 8=0∧y.b.size≤3000∧1≤y.s:=by
 unfold Hk EC at h
 split at h
 · cases h
 · rename_i m
   split at h
   · cases h
   · rename_i q b j
     split at h
     · cases h
     · split at h
       · cases h
       · rename_i c _
         split at h
         · cases h
         · rename_i e
           split at h
           · cases h
           · rename_i i _
             split at h
             · injection h with h
               rw[←h];have k:1≤fw c 0 2∧fw c 0 2≤3000:=inB_true.1 (ar e);refine⟨rfl,by omega,by omega,?_,(DV j).2.1⟩;show(bs ((i.drop 12).take (fw c 0 2).toNat)).size≤3000;rw[bq];have:=List.length_take_le (fw c 0 2).toNat (i.drop 12);omega
             · cases h
theorem Av {x:RdrP} {y z:RecP} (m:1≤y.l∧y.b.size≤3000) (h:GA x y=some z):1≤z.l∧z.l≤y.l+4000∧z.b.size≤3000:=by
 have e:12≤kb y.b.size∧kb y.b.size≤3020:=by unfold kb;omega
 have k:dG y=y.l-1+kb y.b.size:=rfl;have f:=gB (p:=dG y)
 have key:∀a,(a=dG y∨a=cp (dG y))→Hk x a y.s=some z→1≤z.l∧z.l≤y.l+4000∧z.b.size≤3000:=fun a j hr=>by
  have:=Ad hr
  rcases j with rfl | rfl<;>omega
 unfold GA Ez at h
 split at h
 · rename_i c hf
   injection h with h;rw[Option.filter_eq_some_iff] at hf;rw[h] at hf;exact key _ (.inl rfl) hf.1
 · split at h
   · cases h
   · split at h
     · cases h
     · rename_i c hr
       have i:c=z:=by
        split at h
        · injection h
        · split at h
          · cases h
          · split at h
            · injection h
            · cases h
       rw[i] at hr;exact key _ (.inr rfl) hr
structure RiS where
 b:Nat
 y:RecP
 cur:Option RecP
 rs:List RecP
 A:Option Addr
 c:Nat
 ks:List (Nat × Option Nat)
structure RiF (x:RdrP) (cur0:Option RecP) (q:RiS):Prop where
 y:∀z,q.cur=some z→q.y=z
 all:vr x.s x.pg x.top 100 cur0=(vr x.s x.pg x.top (100-q.rs.length) q.cur).map (q.rs ++ ·)
 len:q.rs.length≤100
 bd:∀z,q.cur=some z→1≤z.l∧z.l≤100000001+4000*q.rs.length∧z.b.size≤3000
 i6:∀z∈q.rs,I6 z.l
theorem RiF.next {x:RdrP} {cur0:Option RecP} {q:RiS} (h:RiF x cur0 q) (j:q.cur=some q.y) (o:q.rs.length<100) (b:Nat) (k:RecP) (n:∀z,GA x q.y=some z→k=z) (A:Option Addr) (c:Nat) (ks:List (Nat × Option Nat)) :
 RiF x cur0 ⟨b,k,GA x q.y,q.rs ++ [q.y],A,c,ks⟩:=by
 have m:=h.bd _ j;refine⟨n,?_,by simp;omega,fun z i=>?_,fun z i=>?_⟩
 · rw[h.all,j]
   obtain⟨f,hf⟩:∃f,100-q.rs.length=f+1:=⟨99-q.rs.length,by omega⟩
   have e:100-(q.rs ++ [q.y]).length=f:=by simp;omega
   show _=(vr x.s x.pg x.top (100-(q.rs ++ [q.y]).length) (GA x q.y)).map _;rw[e,hf];show((vr x.s x.pg x.top f (Ez x.s x.pg x.top q.y)).map (q.y::·)).map (q.rs ++ ·)=_;rw[Option.map_map];unfold GA
   congr 1
   funext l;simp
 · have:=Av ⟨m.1,m.2.2⟩ i
   refine⟨this.1,?_,this.2.2⟩;simp only[List.length_append,List.length_cons,List.length_nil];omega
 · rcases List.mem_append.1 i with a | a
   · exact h.i6 z a
   · rw[List.mem_singleton.1 a];unfold I6;omega
open Go.RowKit Go.Sort
open Go.RowKit Go.Sort
section
variable {P:Program} {ρ:Operand→Value} {X:World} {d:Option Tmp} {ty:TypeId} {ps:String} {af:Array Edge} {g:Option (Nat × Bool)}
theorem DJ {x y:Operand} {t c:TypeId} {m n:Int} (hx:ρ x=ae m) (e:ρ y=ae n) (h:0<n∧-4611686018427387904≤m∧m≤4611686018427387904):(execOp ρ ⟨d,.binOp .quo t x y c,ty,ps,af,g⟩).run P X=.ok (.value (ae (m.tdiv n))) X:=by
 have b:n≠0:=by omega
 have Y:-4611686018427387904≤m.tdiv n∧m.tdiv n≤4611686018427387904:=by
  rcases Int.le_total 0 m with a | a
  · rw[Int.tdiv_eq_ediv_of_nonneg a]
    have Y:0≤m / n:=Int.ediv_nonneg a ab;have Y:m / n≤m:=Int.ediv_le_self n a;omega
  · have f:m.tdiv n = -((-m) / n):=by
     rw[←Int.tdiv_eq_ediv_of_nonneg ab,Int.neg_tdiv,Int.neg_neg]
    have Y:0≤(-m) / n:=Int.ediv_nonneg ab ab;have Y:(-m) / n≤-m:=Int.ediv_le_self n ab;omega
 simp[execOp,hx,e,eqGuard,binOp,Op.intDiv,b,de (n:=m.tdiv n) ab]
theorem CM {x:Operand} {t:TypeId} {m:Int} (hx:ρ x=ae m) (h:-9223372036854775807≤m∧m<9223372036854775808):(execOp ρ ⟨d,.unOp .neg t x,ty,ps,af,g⟩).run P X=.ok (.value (ae (-m))) X:=by
 simp[execOp,hx,Op.unary,Op.intArith,de (n:=-m) ab]
end
theorem Ba (n b:Int) (i:0<b):(if n.tmod b<0 then n.tdiv b-1 else n.tdiv b)=n / b:=by
 rcases Int.le_total 0 n with h | h
 · rw[Int.tdiv_eq_ediv_of_nonneg h,Int.tmod_eq_emod_of_nonneg h,if_neg (by have:=Int.emod_nonneg n (b:=b) ab;omega)]
 · have e:n.tdiv b = -((-n) / b):=by rw[←Int.tdiv_eq_ediv_of_nonneg ab,Int.neg_tdiv,Int.neg_neg]
   have c:n.tmod b = -((-n) % b):=by rw[←Int.tmod_eq_emod_of_nonneg ab,Int.neg_tmod,Int.neg_neg]
   rw[e,c];have a:=Int.mul_ediv_add_emod (-n) b;have e2:=Int.emod_nonneg (-n) (b:=b) ab;have e3:=Int.emod_lt_of_pos (-n) i;generalize j:(-n) / b=q at a ⊢;generalize hr:(-n) % b=r at a e2 e3 ⊢;by_cases f:r=0
   · subst f
     rw[if_neg ab]
     have:n=(-q)*b:=by rw[Int.neg_mul,Int.mul_comm];omega
     rw[this,Int.mul_ediv_cancel _ ab]
   · rw[if_pos ab]
     have:n=(b-r)+b*(-q-1):=by rw[Int.mul_sub,Int.mul_neg,Int.mul_one];omega
     rw[this,Int.add_mul_ediv_left _ _ ab,Int.ediv_eq_zero_of_lt ab ab];omega
theorem AP (n b:Int) (h:0<b∧-4611686018427387904≤n∧n≤4611686018427387904) (w:World) :
 fZ 247 #[ae n,ae b] w (ae (n / b)):=by
 have a:=Ba n b h.1
 have f:-4611686018427387904≤n.tdiv b∧n.tdiv b≤4611686018427387904:=by
  rcases Int.le_total 0 n with c | c
  · rw[Int.tdiv_eq_ediv_of_nonneg c]
    have Y:0≤n / b:=Int.ediv_nonneg c ab;have Y:n / b≤n:=Int.ediv_le_self b c;omega
  · have i:n.tdiv b = -((-n) / b):=by rw[←Int.tdiv_eq_ediv_of_nonneg ab,Int.neg_tdiv,Int.neg_neg]
    have Y:0≤(-n) / b:=Int.ediv_nonneg ab ab;have Y:(-n) / b≤-n:=Int.ediv_le_self b ab;omega
 refine aq (N:=16) Tryz.func247 rfl rfl rfl (fun _ Y=>?_);have j:=St.init w;refine GO 9 ?_;intro _ Y;refine sv Y (DJ (Y.ev rfl) (Y.ev rfl) h) fun _ Y=>?_;refine GO 8 ?_;intro _ Y;refine sv Y (yh (Y.ev rfl) (Y.ev rfl) ab) fun _ Y=>?_;refine GO 3 ?_;intro _ Y;refine ak (Y.ev rfl) (fun e=>?_) (fun e=>?_)
 ·
  rw[if_pos (of_decide_eq_true e)] at a;refine GO 2 ?_;intro _ Y;refine sv Y (fp (Y.ev rfl) (Y.ev rfl) ⟨by omega,by omega⟩) fun _ Y=>?_;refine GO 10 ?_;intro _ Y;refine aI Y rfl rfl ?_;exact⟨by rw[a],rfl⟩
 ·
  rw[if_neg (of_decide_eq_false e)] at a;refine GO 9 ?_;intro _ Y;refine aI Y rfl rfl ?_;exact⟨by rw[a],rfl⟩
theorem vp (n b:Int) (h:0<b∧-4611686018427387904≤n∧n≤4611686018427387904) (w:World) :
 fZ 232 #[ae n,ae b] w (ae (-((-n) / b))):=by
 have f:-4611686018427387904≤(-n) / b∧(-n) / b≤4611686018427387904:=by
  rcases Int.le_total 0 (-n) with e | e
  · have h3:0≤(-n) / b:=Int.ediv_nonneg e ab
    have Y:(-n) / b≤-n:=Int.ediv_le_self b e;omega
  · have h3:(-n) / b<1:=Int.ediv_lt_of_lt_mul h.1 ab
    have Y:-n≤(-n) / b:=(Int.le_ediv_iff_mul_le h.1).2 (by
     have:=Int.mul_le_mul_of_nonpos_left (a:=-n) (b:=b) (c:=1) e ab
     omega)
    omega
 refine aq (N:=10) Tryz.func232 rfl rfl rfl (fun _ Y=>?_);have i:=St.init w;refine GO 8 ?_;intro _ e;refine sv e (CM (e.ev rfl) ab) fun _ h3=>?_;refine GO 1 ?_;intro _ Y;refine cU Y rfl (AP _ _ ab _) fun _ Y=>?_;refine sv Y (CM (Y.ev rfl) ab) fun _ Y=>?_;refine GO 4 ?_;intro _ Y;refine aI Y rfl rfl ?_;exact⟨rfl,rfl⟩
open Go.RowKit Go.Sort
theorem iv (n:Int) (w:World):fZ 227 #[ae n] w (.bool (jr n)):=by
 refine aq (N:=5) Tryz.func227 rfl rfl rfl (fun _ Y=>?_);have a:=St.init w;refine GO 8 ?_;intro _ Y;refine cU Y rfl (bu _ _ _ _) fun _ Y=>?_;refine GO 4 ?_;intro _ Y;refine aI Y rfl rfl ?_;exact⟨rfl,rfl⟩
theorem si (n:Int) (h:0≤n∧n≤4611686018427387904) (w:World):fZ 233 #[ae n] w (ae (n / 448)):=by
 refine aq (N:=5) Tryz.func233 rfl rfl rfl (fun _ Y=>?_);have a:=St.init w;refine GO 8 ?_;intro _ Y;refine sv Y (lA (Y.ev rfl) (Y.ev rfl) ⟨by omega,by omega,by omega⟩) fun _ Y=>?_;refine GO 4 ?_;intro _ Y;refine aI Y rfl rfl ?_;exact⟨rfl,rfl⟩
theorem lg (n:Int) (h:-1000000000000≤n∧n≤1000000000000) (w:World):fZ 228 #[ae n] w (ae (cp n)):=by
 refine aq (N:=6) Tryz.func228 rfl rfl rfl (fun _ Y=>?_);have a:=St.init w;refine GO 8 ?_;intro _ Y;refine cU Y rfl (vp _ _ ab _) fun _ Y=>?_;refine sv Y (gg (Y.ev rfl) (Y.ev rfl) ab) fun _ Y=>?_;refine GO 4 ?_;intro _ Y;refine aI Y rfl rfl ?_;exact⟨by unfold cp;congr 2;omega,rfl⟩
theorem km (p c:Int) (h:-1000000000000≤p∧p≤1000000000000∧0≤c∧c≤1000000000000) (w:World):fZ 188 #[ae p,ae c] w (ae (p+kb c)):=by
 refine aq (N:=11) Tryz.func188 rfl rfl rfl (fun _ Y=>?_);have a:=St.init w;refine GO 10 ?_;intro _ Y;refine cU Y rfl (vp _ _ ab _) fun _ Y=>?_;refine sv Y (gg (Y.ev rfl) (Y.ev rfl) ab) fun _ Y=>?_;refine GO 5 ?_;intro _ Y;refine aI Y rfl rfl ?_;exact⟨by unfold kb;congr 2;omega,rfl⟩
theorem rB (n:Int) (w:World):fZ 225 #[ae n] w (ae (j3 n)):=by
 refine aq (N:=6) Tryz.func225 rfl rfl rfl (fun _ Y=>?_);have c:=St.init w;refine GO 8 ?_;intro _ a;refine GO 1 ?_;intro _ Y;refine cU Y rfl (bu _ _ _ _) fun _ Y=>?_;refine GO 3 ?_;intro _ Y;refine ak (Y.ev rfl) (fun b=>?_) (fun b=>?_)
 ·
  have a:bD n 4 40=false:=ar b;refine GO 7 ?_;intro _ Y;refine aI Y rfl rfl ?_;exact⟨by unfold j3;rw[a];rfl,rfl⟩
 ·
  have a:bD n 4 40=true:=ar b;refine GO 8 ?_;intro _ Y;refine aI Y rfl rfl ?_;exact⟨by unfold j3;rw[a];rfl,rfl⟩
theorem jD (x:RstP) (w:World):bz 226 #[oC x] w (ae (fK x)):=by
 refine aq (N:=19) Tryz.func226 rfl rfl rfl (fun _ Y=>?_);have Z:=St.init w;refine ai (an ?_);refine nb Y rfl rfl Z fun b1 _ _ t a Z=>GO 6 ?_;intro _ j;refine GO 1 ?_;intro _ h3;refine GO 1 ?_;intro _ e;refine cU e rfl (bu _ _ _ _) fun _ Y=>?_;refine GO 2 ?_;intro _ Y;apply bI Y Z 7 rfl 5 12
 case hf=>
  intro i;refine GO 2 ?_;intro _ Y;refine ct Y (ao Y _ rfl rfl rfl i) (az bc (Y.evs rfl) rfl) rfl rfl (iv _ _) fun _ Y=>GO 2 ?_;intro _ Y;exact ah ⟨Y.midE 4,Z⟩
 case ht=>
  intro i;refine GO 5 ?_;intro _ Y;exact ah ⟨Y.midE 4,Z⟩
 case h=>
  rintro l q ⟨u,b⟩
  refine GO 1 ?_;intro _ Y;apply bI Y b 13 rfl 5 18
  case hf=>
   intro k;refine GO 2 ?_;intro _ Y;refine ct Y (ao Y _ rfl rfl rfl k) (az bc (Y.evs rfl) rfl) rfl rfl (iv _ _) fun _ Y=>GO 2 ?_;intro _ Y;exact ah ⟨Y.midE 4,b⟩
  case ht=>
   intro k;refine GO 5 ?_;intro _ Y;exact ah ⟨Y.midE 4,b⟩
  case h=>
   rintro n r ⟨m,f⟩
   refine ah (aj ?_);refine ak (m.ev rfl) (fun p=>?_) (fun p=>?_)
   ·
    have a:qb x=false:=by
     unfold qb
     cases j:bD x.s 1 60000<;>cases h3:jr x.c<;>cases e:jr x.o<;>simp_all
    refine GO 7 ?_;intro _ Y;refine aI Y rfl rfl ?_;exact⟨by unfold fK;rw[a];rfl,f.below⟩
   ·
    have a:qb x=true:=by
     unfold qb
     cases j:bD x.s 1 60000<;>cases h3:jr x.c<;>cases e:jr x.o<;>simp_all
    refine GO 8 ?_;intro _ Y;refine aI Y rfl rfl ?_;exact⟨by unfold fK;rw[a];rfl,f.below⟩
theorem Dn {l:List RecP} {n:Int} {k:Nat} (b:k<l.length) (h:(l.take k).find? (fun x=>x.l==n)=none) (a:(l[k].l==n)=false):(l.take (k+1)).find? (fun x=>x.l==n)=none:=by
 rw[List.take_add_one,List.getElem?_eq_getElem b,List.find?_append,h];simp[a]
theorem DB {l:List RecP} {n:Int} {k:Nat} (b:k<l.length) (h:(l.take k).find? (fun x=>x.l==n)=none) (a:(l[k].l==n)=true):wP l n=some l[k]:=by
 unfold wP
 conv=>lhs;rw[←List.take_append_drop k l]
 rw[List.find?_append,h,List.drop_eq_getElem_cons b,List.find?_cons,a];rfl
theorem uD (r:RngP) (A:Option Addr) (c:Nat) (n:Int) (w:World) (hr:Rd w w.heap.size A (aJ r.rs)) (p:r.rs.length≤1000) :
 bz 235 #[a7 r A c,ae n] w (.tuple #[.string (match wP r.rs n with | some x=>x.b | none=>⟨#[]⟩),.bool (wP r.rs n).isSome]):=by
 refine aq (N:=28) Tryz.func235 rfl rfl rfl (fun _ Y=>?_);have Z:=St.init w;refine ai (an ?_);refine nb Y rfl rfl Z fun s _ _ q Y Z=>GO 11 ?_;intro _ Y;refine aY Y Z [2,1] (fun (k:Nat)=>[(6,ae (k:Int))]) (fun (k:Nat)=>k≤r.rs.length∧(r.rs.take k).find? (fun x=>x.l==n)=none) (fun (k:Nat) L=>L) (fun (k:Nat)=>r.rs.length-k) (0) (⟨Nat.zero_le _,rfl⟩) bN (Z) ?_;intro k _ _ f Y Z;refine GO 4 ?_;intro _ Y;refine vf Y 7 7 fun _ Y=>?_;refine GO 5 ?_;intro _ Y;refine ak (Y.ev rfl) (fun e=>?_) (fun e=>?_)
 ·
  have a:k<r.rs.length:=by have:=of_decide_eq_true e;omega
  obtain⟨b,o,rfl,hB,_⟩:=hr.opened (by rw[bw];omega);refine wp_skip (aj (ai (wp_block (ai (an ?_)))));refine vf Y 7 7 fun _ Y=>?_;refine GO 2 ?_;intro _ Y;refine sv Y (av (i:=k) (sz:=3) cv aa (Y.ev rfl) (Y.ev rfl) ab ab rfl) fun _ Y=>?_;refine sv Y (fy 0 (Y.ev rfl)) fun _ Y=>?_;refine sv Y (lx (Y.ev rfl) ((recAt (Z.rd0 hr) a) 0 _ rfl)) fun _ Y=>?_;refine GO 4 ?_;intro _ Y;refine ak (Y.ev rfl) (fun h=>?_) (fun h=>?_)
  ·
   refine ai (an ?_);refine vf Y 7 7 fun _ Y=>?_;refine GO 2 ?_;intro _ Y;refine sv Y (av (i:=k) (sz:=3) cv aa (Y.ev rfl) (Y.ev rfl) ab ab rfl) fun _ Y=>?_;refine sv Y (fy 2 (Y.ev rfl)) fun _ Y=>?_;refine sv Y (lx (Y.ev rfl) ((recAt (Z.rd0 hr) a) 2 _ rfl)) fun _ Y=>?_;refine GO 10 ?_;intro _ Y;refine cd Y rfl rfl rfl ?_;exact⟨by rw[DB a f.2 h];rfl,Z.below⟩
  ·
   refine GO 9 ?_;intro _ Y;exact⟨k+1,ab,⟨a,Dn a f.2 h⟩,Y.re bN,Z⟩
 ·
  have j:k=r.rs.length:=by have:=of_decide_eq_false e;omega
  have m:wP r.rs n=none:=by have:=f.2;rwa [j,List.take_length] at this
  refine GO 12 ?_;intro _ Y;refine cd Y rfl rfl rfl ?_;exact⟨by rw[m];rfl,Z.below⟩
theorem Em (l:List RecP) (n:Int):(wP l n).isSome=ec l n:=by
 unfold wP ec;rw[Bool.eq_iff_iff,List.find?_isSome,List.any_eq_true]
theorem o3 (r:RngP) (A:Option Addr) (c:Nat) (n:Int) (w:World) (hr:Rd w w.heap.size A (aJ r.rs)) (a:r.rs.length≤1000) :
 bz 192 #[a7 r A c,ae n] w (.bool (ec r.rs n)):=by
 refine aq (N:=14) Tryz.func192 rfl rfl rfl (fun _ Y=>?_);have Z:=St.init w;refine ai (an ?_);refine nb Y rfl rfl Z fun e _ _ b Y Z=>GO 5 ?_;intro _ Y;refine sv (v:=a7 r A c) Y (ag aa aa (Y.ev rfl) (Z.cellsAll (i:=0) rfl)) fun _ Y=>?_;refine GO 1 ?_;intro _ Y;refine cN Y rfl Z (uD r A c n _ (Z.rd0 hr) a) fun _ _ Y Z=>?_;refine GO 14 ?_;intro _ Y;refine aI Y rfl rfl ?_;exact⟨by rw[←Em];rfl,Z.below⟩
theorem zp (r:RngP) (A:Option Addr) (c:Nat) (w:World) (hr:Rd w w.heap.size A (aJ r.rs)) (y:RecP) (m:r.rs.getLast? = some y) (q:Bfr y) (n:r.rs.length≤1000) :
 bz 234 #[a7 r A c] w (ae (dG y-1)):=by
 have e:r.rs≠[]:=by intro h;rw[h] at m;cases m
 have p:=List.length_pos_iff.2 e
 have k:r.rs[r.rs.length-1]=y:=by have:=lD e;rw[m] at this;injection this with this;exact this.symm
 have a:=q.bd;unfold Bfr at q;obtain⟨b,o,rfl,hB,_⟩:=hr.opened (by rw[bw];omega)
 have f:∀{X:World} {B:Nat},Rd X B (some ⟨b,o,none⟩) (aJ r.rs)→∀(j:Nat) (u:Value),[Value.int .i64 y.l,ae y.s,.string y.b][j]? = some u→X.cell? ⟨b,o+(r.rs.length-1)*3+j,none⟩=some u:=fun h=>by rw[←k];exact recAt h ab
 refine aq (N:=20) Tryz.func234 rfl rfl rfl (fun _ Y=>?_);have Z:=St.init w;refine ai (an ?_);refine nb Y rfl rfl Z fun b1 _ _ z Y Z=>GO 5 ?_;intro _ Y;refine vf Y 7 7 fun _ Y=>?_;refine GO 1 ?_;intro _ Y;refine vf Y 7 7 fun _ Y=>?_;refine GO 3 ?_;intro _ Y;refine sv Y (av (i:=r.rs.length-1) (sz:=3) cv aa (Y.ev rfl) (Y.ev rfl) ab ab rfl) fun _ Y=>?_;refine sv (v:=ik y) Y (ag aa aa (Y.ev rfl) (f (Z.rd0 hr))) fun _ Y=>?_;refine na (.agg ia) Y rfl Z fun x _ _ t Y Z=>sw Y Z 0 fun _ Z=>?_;refine GO 10 ?_;intro _ Y;refine cU Y rfl (km _ _ ab _) fun _ Y=>?_;refine sv Y (fp (Y.ev rfl) (Y.ev rfl) ⟨by unfold dG at a;omega,by unfold dG at a;omega⟩) fun _ Y=>?_;refine GO 4 ?_;intro _ Y;refine aI Y rfl rfl ?_;exact⟨rfl,Z.below⟩
theorem pk (r:RngP) (A:Option Addr) (c:Nat) (w:World) (hr:Rd w w.heap.size A (aJ r.rs)) (p:∀y,r.rs.getLast? = some y→Bfr y) (m:r.rs=[]∨(1≤r.r.o∧r.r.o≤100000000)) (b:r.rs.length≤1000) :
 bz 189 #[a7 r A c] w (.tuple #[ae (cL r).1,ae (cL r).2]):=by
 refine aq (N:=21) Tryz.func189 rfl rfl rfl (fun _ Y=>?_);have Z:=St.init w;refine ai (an ?_);refine nb Y rfl rfl Z fun b1 _ _ q Y Z=>GO 7 ?_;intro _ Y;refine vf Y 7 7 fun _ Y=>?_;refine GO 5 ?_;intro _ Y;refine ak (Y.ev rfl) (fun k=>?_) (fun k=>?_)
 ·
  have f:r.rs=[]:=by simp only[beq_iff_eq] at k;exact List.eq_nil_of_length_eq_zero ab
  refine GO 8 ?_;intro _ Y;refine cd Y rfl rfl rfl ?_;exact⟨by unfold cL;rw[f];rfl,Z.below⟩
 ·
  have j:r.rs≠[]:=by intro h;rw[h] at k;simp at k
  replace m:=m.resolve_left j;have a:=lD j;obtain⟨y,l⟩:∃y,r.rs.getLast? = some y:=⟨_,a⟩;have e:=p _ l;have n:=e.bd;refine GO 5 ?_;intro _ Y;refine vf Y 2 3 fun _ Y=>?_;refine GO 2 ?_;intro _ Y;refine cU Y rfl (si _ ab _) fun _ Y=>?_;refine GO 6 ?_;intro _ Y;refine sv (v:=a7 r A c) Y (ag aa aa (Y.ev rfl) (Z.cellsAll (i:=0) rfl)) fun _ Y=>?_;refine cN Y rfl Z (zp r A c _ (Z.rd0 hr) y l e b) fun _ _ Y Z=>?_;refine cU Y rfl (si _ ab _) fun _ Y=>?_;refine GO 8 ?_;intro _ Y;refine cd Y rfl rfl rfl ?_;exact⟨by unfold cL;rw[l],Z.below⟩
open Go.RowKit Go.Sort
theorem Ab (r:RngP) (A:Option Addr) (c:Nat) (w:World) (b:r.rs=[]) :
 Calls Tryz.prog 44 #[a7 r A c] w fun e j=>∃f h,e=.returned (a7 r f h)∧j.ownsRow w.heap.size 177 3 (.slice f r.rs.length h) r.rs.length (aJ r.rs)∧Below w.heap.size w j:=by
 obtain⟨pg,rr,ee,rs,nx⟩:=r;have a:rs=[]:=b;subst a;refine aq (N:=11) Tryz.func44 rfl rfl rfl (fun _ Y=>?_);have Z:=St.init w;refine ai (an ?_);refine nb Y rfl rfl Z fun b1 _ _ o Y Z=>na (.agg ef) Y rfl Z fun s _ _ l Y Z=>mM ?_;refine sv Y (ag aa aa (Y.ev rfl) (Z.cellsAll (i:=1) rfl)) fun _ Y=>?_;refine na (.agg ef) Y rfl Z fun t _ _ p Y Z=>sw Y Z 0 fun _ Z=>?_;refine mM ?_;refine cX (zc:=kQ) (sz:=3) Y (wn rfl) ⟨rfl,rfl⟩ rfl cv aa aa rfl rfl rfl (Y.evs2 rfl) rfl rfl rfl Z fun k _ _ m Y Z=>vf Y 7 7 fun _ Y=>?_;refine GO 1 ?_;intro _ Y;refine k5 (sz:=3) Y (wn rfl) ⟨rfl,rfl⟩ rfl cv aa (Y.ev rfl) (Y.ev rfl) fun _ Y=>vf Y 7 7 fun _ Y=>?_;refine aM Y (wn rfl) ⟨rfl,rfl⟩ (Y.ev rfl) (Y.ev rfl) rfl aa Z (i:=1) rfl rfl rfl fun _ Z=>mM ?_;refine sv Y (ag aa aa (Y.ev rfl) (Z.cellsAll (i:=1) rfl)) fun _ Y=>?_;refine sw Y Z 2 fun _ Z=>?_;refine ah (aj (wp_ret ?_));refine mz Y rfl rfl Z (i:=2) rfl aa aa ?_;have q:=(Z.toRow (i:=0) (n:=0) (sz:=3) rfl rfl au).ownB (i:=0) rfl;exact⟨some ⟨k,0,none⟩,0,rfl,q,Z.below⟩
theorem nI (r:RngP) (A:Option Addr) (c:Nat) (w:World) (hr:Rd w w.heap.size A (aJ r.rs)) (f:r.rs.length≤1000) :
 Calls Tryz.prog 44 #[a7 r A c] w fun e j=>∃b h,e=.returned (a7 r b h)∧j.ownsRow w.heap.size 177 3 (.slice b r.rs.length h) r.rs.length (aJ r.rs)∧Below w.heap.size w j:=by
 rcases Nat.eq_zero_or_pos r.rs.length with a | a
 · exact Ab r A c w (List.eq_nil_of_length_eq_zero a)
 refine aq (N:=11) Tryz.func44 rfl rfl rfl (fun _ a=>?_);have Z:=St.init w;refine ai (an ?_);refine nb a rfl rfl Z fun b1 _ _ q Y Z=>na (.agg ef) Y rfl Z fun t _ _ o Y Z=>mM ?_;refine sv Y (ag aa aa (Y.ev rfl) (Z.cellsAll (i:=1) rfl)) fun _ Y=>?_;refine na (.agg ef) Y rfl Z fun u _ _ s Y Z=>sw Y Z 0 fun _ Z=>?_;refine mM ?_;refine cX (zc:=kQ) (sz:=3) Y (wn rfl) ⟨rfl,rfl⟩ rfl cv aa aa rfl rfl rfl (Y.evs2 rfl) rfl rfl rfl Z fun m _ _ p Y Z=>vf Y 7 7 fun _ Y=>?_;refine GO 1 ?_;intro _ Y;have Z:=Z.toRow (i:=0) (n:=0) (sz:=3) rfl rfl au;refine bP (z:=.agg ia) (sz:=3) (bytes:=32) Y (wn rfl) ⟨rfl,rfl⟩ rfl cv aa rfl rfl (Y.ev rfl) (Y.ev rfl) Z (i:=0) rfl (Z.rd0 hr) (bw r.rs) (sD r.rs) ⟨ab,by decide⟩ fun l k _ _ Y Z=>?_;refine vf Y 7 7 fun _ Y=>?_;refine aM Y (wn rfl) ⟨rfl,rfl⟩ (Y.ev rfl) (Y.ev rfl) rfl aa Z (i:=1) rfl rfl rfl fun _ Z=>?_;rw[Nat.zero_add] at Z;refine mM ?_;refine sv Y (ag aa aa (Y.ev rfl) (Z.cellsAll (i:=1) rfl)) fun _ Y=>?_;refine sw Y Z 2 fun _ Z=>?_;refine ah (aj (wp_ret ?_));refine mz Y rfl rfl Z (i:=2) rfl aa aa ?_;exact⟨l,k,rfl,Z.ownB (i:=0) rfl,Z.below⟩
theorem xV (x y:RecP):jO [ae x.l,ae x.s,.string x.b] [ae y.l,ae y.s,.string y.b]=decide (x=y):=by
 obtain⟨a,b,c⟩:=x;obtain⟨e,h,f⟩:=y;rw[Bool.eq_iff_iff];simp[jO,s7]
theorem sB (r t:RngP) (A M:Option Addr) (c S:Nat) (w:World) (hr:Rd w w.heap.size A (aJ r.rs)) (ht:Rd w w.heap.size M (aJ t.rs)) (O:r.rs.length≤1000) (D:t.rs.length≤1000) :
 bz 49 #[a7 r A c,a7 t M S] w (.bool (decide (r=t))):=by
 refine aq (N:=59) Tryz.func49 rfl rfl rfl (fun _ Y=>?_);have Z:=St.init w;refine ai (an ?_);refine nb Y rfl rfl Z fun b2 _ _ Zp j Z=>nb j rfl rfl Z fun b3 _ _ Zq y Z=>GO 6 ?_;intro _ h3;refine GO 1 ?_;intro _ u;refine GO 1 ?_;intro _ z;refine GO 4 ?_;intro _ Y;apply bI Y Z 11 rfl 6 17
 case hf=>
  intro K;refine GO 1 ?_;intro _ Y;refine aT (v:=oC r.r) Y (ao Y _ rfl rfl rfl K) (ag aa aa (Y.ev rfl) (Z.cellsOf (i:=1) rfl 1 3)) rfl rfl fun _ Y=>GO 1 ?_;intro _ Y;refine aT (v:=oC t.r) Y (ao Y _ rfl rfl rfl K) (ag aa aa (Y.ev rfl) (Z.cellsOf (i:=0) rfl 1 3)) rfl rfl fun _ Y=>sy Y (h7 (ks:=[.i .i64,.i .i64,.i .i64]) aa vi aa (Y.ev rfl) (Y.ev rfl) rfl rfl) fun _ Y=>?_;refine GO 1 ?_;intro _ Y;exact ah ⟨Y.midE 5,Z⟩
 case ht=>
  intro K;refine GO 6 ?_;intro _ Y;exact ah ⟨Y.midE 5,Z⟩
 case h=>
  rintro W Zr ⟨Zs,q⟩
  refine GO 1 ?_;intro _ Y;apply bI Y q 18 rfl 6 24
  case hf=>
   intro B;refine sy Y (fx 4 4 (Y.ev rfl)) fun _ Y=>?_;refine aT (v:=oC r.e) Y (ao Y _ rfl rfl rfl B) (ag aa aa (Y.ev rfl) (q.cellsOf (i:=1) rfl 4 3)) rfl rfl fun _ Y=>sy Y (fx 4 4 (Y.ev rfl)) fun _ Y=>?_;refine aT (v:=oC t.e) Y (ao Y _ rfl rfl rfl B) (ag aa aa (Y.ev rfl) (q.cellsOf (i:=0) rfl 4 3)) rfl rfl fun _ Y=>sy Y (h7 (ks:=[.i .i64,.i .i64,.i .i64]) aa vi aa (Y.ev rfl) (Y.ev rfl) rfl rfl) fun _ Y=>?_;refine GO 1 ?_;intro _ Y;exact ah ⟨Y.midE 5,q⟩
  case ht=>
   intro B;refine GO 6 ?_;intro _ Y;exact ah ⟨Y.midE 5,q⟩
  case h=>
   rintro Jw Zt ⟨Zu,I⟩
   refine GO 1 ?_;intro _ Y;apply bI Y I 25 rfl 6 31
   case hf=>
    intro T;refine sy Y (fx 8 8 (Y.ev rfl)) fun _ Y=>?_;refine GO 1 ?_;intro _ Y;refine sy Y (fx 8 8 (Y.ev rfl)) fun _ Y=>?_;refine GO 3 ?_;intro _ Y;exact ah ⟨Y.midE 5,I⟩
   case ht=>
    intro T;refine GO 6 ?_;intro _ Y;exact ah ⟨Y.midE 5,I⟩
   case h=>
    rintro U Zv ⟨Zw,J⟩
    refine GO 1 ?_;intro _ Y;apply bI Y J 32 rfl 8 40
    case hf=>
     intro Zh;refine sy Y (fx 7 7 (Y.ev rfl)) fun _ Y=>?_;refine GO 2 ?_;intro _ Y;refine sy Y (fx 7 7 (Y.ev rfl)) fun _ Y=>?_;refine GO 4 ?_;intro _ Y;exact ah ⟨Y.midE 7,J⟩
    case ht=>
     intro Zh;refine GO 8 ?_;intro _ Y;exact ah ⟨Y.midE 7,J⟩
    case h=>
     rintro Jv Zx ⟨Zn,G⟩
     refine ah (aj ?_);refine ak (Zn.ev rfl) (fun x=>?_) (fun x=>?_)
     ·
      have p:r≠t:=by
       rintro rfl
       simp only[Bool.or_eq_true,bne_iff_ne] at x;rcases x with (((h | h) | h) | h) | h
       · exact h rfl
       · have a:(!jO [ae r.r.s,ae r.r.c,ae r.r.o] [ae r.r.s,ae r.r.c,ae r.r.o])=true:=h
         rw[jy] at a;simp at a
       · have a:(!jO [ae r.e.s,ae r.e.c,ae r.e.o] [ae r.e.s,ae r.e.c,ae r.e.o])=true:=h
         rw[jy] at a;simp at a
       · exact h rfl
       · exact h rfl
      refine GO 7 ?_;intro _ Y;refine aI Y rfl rfl ?_;exact⟨by rw[decide_eq_false p],G.below⟩
     ·
      have R:r.pg=t.pg∧r.r=t.r∧r.e=t.e∧r.nx=t.nx∧r.rs.length=t.rs.length:=by
       simp only[Bool.or_eq_false_iff,bne_eq_false_iff_eq] at x;obtain⟨⟨⟨⟨j,y⟩,h3⟩,u⟩,z⟩:=x;have a:(!jO [ae r.r.s,ae r.r.c,ae r.r.o] [ae t.r.s,ae t.r.c,ae t.r.o])=false:=y;have e2:(!jO [ae r.e.s,ae r.e.c,ae r.e.o] [ae t.e.s,ae t.e.c,ae t.e.o])=false:=h3;rw[jy] at a e2;exact⟨j,ar a,ar e2,u,by omega⟩
      refine GO 9 ?_;intro _ Y;refine aY Y G [3,2] (fun (k:Nat)=>[(5,ae (k:Int))]) (fun (k:Nat)=>k≤r.rs.length∧r.rs.take k=t.rs.take k) (fun (k:Nat) L=>L) (fun (k:Nat)=>r.rs.length-k) (0) (⟨Nat.zero_le _,rfl⟩) bN (G) ?_;intro k _ _ Q Y Z;refine GO 4 ?_;intro _ Y;refine vf Y 7 7 fun _ Y=>?_;refine GO 5 ?_;intro _ Y;refine ak (Y.ev rfl) (fun C=>?_) (fun C=>?_)
      ·
       have m:k<r.rs.length:=by have:=of_decide_eq_true C;omega
       have f:k<t.rs.length:=by omega
       obtain⟨b,o,rfl,_⟩:=hr.opened (by rw[bw];omega);obtain⟨b',o',rfl,_⟩:=ht.opened (by rw[bw];omega);refine wp_skip (aj (ai (wp_block (ai ?_))));apply aK Y (fA 10) _ aa
       case h=>
        refine qv Y (fun X n=>fx 7 7 (Y.ev rfl)) fun _ Y=>?_;refine GO 2 ?_;intro _ Y;refine qv Y (fun X n=>av (i:=k) (sz:=3) cv aa (Y.ev rfl) (Y.ev rfl) ab ab rfl) fun _ Y=>?_;refine qv (v:=ik r.rs[k]) Y (fun X n=>ag aa aa (Y.ev rfl) (recAt ((Z.grow n).rd0 hr) m)) fun _ Y=>?_;refine qv Y (fun X n=>fx 7 7 (Y.ev rfl)) fun _ Y=>?_;refine GO 2 ?_;intro _ Y;refine qv Y (fun X n=>av (i:=k) (sz:=3) cv aa (Y.ev rfl) (Y.ev rfl) ab ab rfl) fun _ Y=>?_;refine qv (v:=ik t.rs[k]) Y (fun X n=>ag aa aa (Y.ev rfl) (recAt ((Z.grow n).rd0 ht) f)) fun _ Y=>?_;refine ax ?_;refine aV fun _ V Zo=>?_;have Z:=Z.grow V;refine sv Y (h7 (ks:=[.i .i64,.i .i64,.s]) aa Tryz.underlying177 aa (Y.ev rfl) (Y.ev rfl) rfl rfl) fun _ Y=>?_;refine ah (aj ?_);refine ak (Y.ev rfl) (fun F=>?_) (fun F=>?_)
        ·
         have p:r≠t:=by
          rintro rfl
          have a:(!jO [ae r.rs[k].l,ae r.rs[k].s,.string r.rs[k].b] [ae r.rs[k].l,ae r.rs[k].s,.string r.rs[k].b])=true:=F;rw[xV] at a;simp at a
         refine GO 11 ?_;intro _ Y;refine aI Y rfl rfl ?_;exact⟨by rw[decide_eq_false p],Z.below⟩
        ·
         have H:r.rs[k]=t.rs[k]:=by
          have a:(!jO [ae r.rs[k].l,ae r.rs[k].s,.string r.rs[k].b] [ae t.rs[k].l,ae t.rs[k].s,.string t.rs[k].b])=false:=F;rw[xV] at a;simpa using a
         refine GO 9 ?_;intro _ Y;exact⟨k+1,ab,⟨m,by rw[List.take_add_one,List.take_add_one,Q.2,List.getElem?_eq_getElem m,List.getElem?_eq_getElem f,H]⟩,Y.re bN,Z⟩
       case hB=>kernel_rfl
       case hst=>rfl
      ·
       have E:k=r.rs.length:=by have:=of_decide_eq_false C;omega
       have heq:r=t:=by
        have j:=Q.2;rw[E,List.take_length,R.2.2.2.2,List.take_length] at j;obtain⟨p1,p2,p3,p4,p5⟩:=r;obtain⟨q1,q2,q3,q4,q5⟩:=t;obtain⟨y,h3,u,z,_⟩:=R;simp only at j y h3 u z;rw[j,y,h3,u,z]
       refine GO 11 ?_;intro _ Y;refine aI Y rfl rfl ?_;exact⟨by rw[decide_eq_true heq],Z.below⟩
open Go.RowKit Go.Sort
theorem ua (r:RngP) (A:Option Addr) (c:Nat) (w:World) (hr:Rd w w.heap.size A (aJ r.rs)) (a:r.rs.length≤1000) (m:0≤r.nx∧r.nx≤200000000) :
 Calls Tryz.prog 191 #[a7 r A c] w fun e k=>∃f j,e=.returned (.tuple #[a7 (ig r) f j,ae (jf r)])∧k.ownsRow w.heap.size 177 3 (.slice f (ig r).rs.length j) (ig r).rs.length (aJ (ig r).rs)∧Below w.heap.size w k:=by
 refine aq (N:=16) Tryz.func191 rfl rfl rfl (fun _ Y=>?_);have Z:=St.init w;refine ai (an ?_);refine nb Y rfl rfl Z fun b1 _ _ n Y Z=>na (.agg ef) Y rfl Z fun q _ _ p Y Z=>GO 5 ?_;intro _ Y;refine sv (v:=a7 r A c) Y (ag aa aa (Y.ev rfl) (Z.cellsAll (i:=1) rfl)) fun _ Y=>?_;refine jg Y (wn rfl) (az bc (Y.evs rfl) rfl) rfl rfl Z (nI r A c _ (Z.rd0 hr) a) (Nat.le_refl _) fun h l _ _ Y Z=>na (.agg ef) Y rfl Z fun b4 _ _ o Y Z=>sw Y Z 0 fun _ Z=>?_;refine mM ?_;refine vf Y 8 8 fun _ Y=>?_;refine GO 1 ?_;intro _ Y;refine cU Y rfl (lg _ ab _) fun _ Y=>?_;refine vf Y 8 8 fun _ Y=>?_;refine aM Y (wn rfl) ⟨rfl,rfl⟩ (Y.ev rfl) (Y.ev rfl) rfl aa Z (i:=0) rfl rfl rfl fun _ Z=>ah (aj (ai (ai (an ?_))));refine vf Y 8 8 fun _ Y=>?_;refine GO 4 ?_;intro _ Y;refine ak (Y.ev rfl) (fun b=>?_) (fun b=>?_)
 ·
  have hf:jf r=16:=by
   have Y:100000000<cp r.nx:=of_decide_eq_true b;unfold jf;rw[decide_eq_false ab];rfl
  have e3:ig r=du:=by unfold ig;rw[if_neg (by rw[hf];decide)]
  refine ai (an ?_);refine sv Y (ay (zs:=jG) (pl:=jF) aa aa (Y.evs2 rfl) rfl rfl) fun _ Y=>?_;refine sw Y Z 2 fun _ Z=>?_;refine GO 5 ?_;intro _ Y;refine br Y rfl rfl rfl Z (i:=2) rfl aa aa ?_;exact⟨none,0,by rw[hf,e3];rfl,by rw[e3];exact World.ownsRow_nil _ _ _ _,Z.below⟩
 ·
  have hf:jf r=0:=by
   have Y:¬100000000<cp r.nx:=of_decide_eq_false b;unfold jf;rw[decide_eq_true ab];rfl
  have e3:ig r=rm r:=by unfold ig;rw[if_pos hf]
  refine wp_skip (aj (ai (an ?_)));refine sv (v:=a7 (rm r) h l) Y (ag aa aa (Y.ev rfl) (Z.cellsAll (i:=0) rfl)) fun _ Y=>?_;refine sw Y Z 2 fun _ Z=>?_;refine GO 4 ?_;intro _ Y;refine br Y rfl rfl rfl Z (i:=2) rfl aa aa ?_;exact⟨h,l,by rw[hf,e3];rfl,by rw[e3];exact Z.ownB (i:=1) rfl,Z.below⟩
theorem rj (r:RngP) (A:Option Addr) (c:Nat) (s:ByteArray) (w:World) (hr:Rd w w.heap.size A (aJ r.rs)) (u:OkP r) (hs:s.size≤1000000) :
 Calls Tryz.prog 119 #[a7 r A c,.string s] w fun e J=>∃F I,e=.returned (.tuple #[a7 (fM r s) F I,ae (if eN r s=0 then r.nx+1 else 0),ae (eN r s)])∧J.ownsRow w.heap.size 177 3 (.slice F (fM r s).rs.length I) (fM r s).rs.length (aJ (fM r s).rs)∧Below w.heap.size w J:=by
 have o:r.rs.length≤1000:=by have:=u.h.len;omega
 have V:=u.h.nx;have ho:=u.o1;have W:=u.h.pg;refine aq (N:=67) Tryz.func119 rfl rfl rfl (fun _ Y=>?_);have Z:=St.init w;refine ai (an ?_);refine nb Y rfl rfl Z fun b2 _ _ Zm Y Z=>na (.agg ef) Y rfl Z fun b4 _ _ Zn Y Z=>GO 6 ?_;intro _ Y;refine sv Y (ay (zs:=jG) (pl:=jF) aa aa (Y.evs2 rfl) rfl rfl) fun _ Y=>?_;refine na (.agg ef) Y rfl Z fun b7 _ _ Zo Y Z=>sw Y Z 0 fun _ Z=>?_;refine GO 10 ?_;intro _ Y;refine ak (Y.ev rfl) (fun x=>?_) (fun x=>?_)
 ·
  have hf:eN r s=17:=by
   have:s.size=0:=by have:=eq_of_beq x;omega
   unfold eN;rw[if_pos this]
  have e3:fM r s=du:=by unfold fM;rw[if_neg (by rw[hf];decide)]
  refine ai (an ?_);refine sv Y (ag aa aa (Y.ev rfl) (Z.cellsAll (i:=0) rfl)) fun _ Y=>?_;refine sw Y Z 1 fun _ Z=>?_;refine GO 6 ?_;intro _ Y;refine k7 Y rfl rfl rfl rfl Z (i:=1) rfl aa aa ?_;exact⟨none,0,by rw[hf,e3];rfl,by rw[e3];exact World.ownsRow_nil _ _ _ _,Z.below⟩
 ·
  have f:¬s.size=0:=by
   intro h;rw[h] at x;exact absurd x au
  refine GO 9 ?_;intro _ Y;apply bI Y Z 19 rfl 5 24
  case hf=>
   intro Zf;refine sy Y (fx 7 7 (Y.ev rfl)) fun _ Y=>?_;refine GO 4 ?_;intro _ Y;exact ah ⟨Y.midE 4,Z⟩
  case ht=>
   intro Zf;refine GO 5 ?_;intro _ Y;exact ah ⟨Y.midE 4,Z⟩
  case h=>
   rintro K Zp ⟨p,t⟩
   refine ah (aj ?_);refine ak (p.ev rfl) (fun E=>?_) (fun E=>?_)
   ·
    have hf:eN r s=8:=by
     unfold eN;rw[if_neg f];by_cases h:3000<s.size
     · rw[if_pos h]
     · rw[if_neg h,if_pos]
       have hd:decide ((s.size:Int)>3000)=false:=by rw[decide_eq_false_iff_not];omega
       rw[hd,Bool.false_or,decide_eq_true_eq] at E;omega
    have e3:fM r s=du:=by unfold fM;rw[if_neg (by rw[hf];decide)]
    refine ai (an ?_);refine sv p (ag aa aa (p.ev rfl) (t.cellsAll (i:=0) rfl)) fun _ Y=>?_;refine sw Y t 1 fun _ Z=>?_;refine GO 6 ?_;intro _ Y;refine k7 Y rfl rfl rfl rfl Z (i:=1) rfl aa aa ?_;exact⟨none,0,by rw[hf,e3];rfl,by rw[e3];exact World.ownsRow_nil _ _ _ _,Z.below⟩
   ·
    have G:s.size≤3000∧r.rs.length<100:=by
     rw[Bool.or_eq_false_iff,decide_eq_false_iff_not,decide_eq_false_iff_not] at E;omega
    have U:=gQ G.1;have B:Bfr ⟨r.nx+1,r.r.s,s⟩:=⟨by show 1≤r.nx+1;omega,by show r.nx+1≤500000000;omega,G.1⟩
    have S:r.rs.length+1=(r.rs ++ [(⟨r.nx+1,r.r.s,s⟩:RecP)]).length:=by simp
    refine wp_skip (aj (ai (an ?_)));refine sv (v:=a7 r A c) p (ag aa aa (p.ev rfl) (t.cellsAll (i:=2) rfl)) fun _ Y=>?_;refine jg Y (wn rfl) (az bc (Y.evs rfl) rfl) rfl rfl t (nI r A c _ (t.rd0 hr) o) (Nat.le_refl _) fun Jw M _ _ Y Z=>na (.agg ef) Y rfl Z fun b8 _ _ Zq Y Z=>sw Y Z 0 fun _ Z=>?_;refine mM ?_;refine vf Y 7 7 fun _ Y=>?_;refine GO 1 ?_;intro _ Y;refine vf Y 8 8 fun _ Y=>?_;refine GO 3 ?_;intro _ Y;refine vf Y 0 1 fun _ Y=>?_;refine GO 2 ?_;intro _ Y;refine sv (v:=ik ⟨r.nx+1,r.r.s,s⟩) Y (ay (zs:=kQ) (pl:=fE) aa aa (Y.evs2 rfl) rfl rfl) fun _ Y=>?_;refine cX (cs:=recC ⟨r.nx+1,r.r.s,s⟩) (zc:=kQ) (sz:=3) Y (wn rfl) ⟨rfl,rfl⟩ rfl cv aa aa rfl rfl rfl (Y.evs2 rfl) rfl rfl rfl Z fun Q _ _ Zl Y Z=>bP (z:=.agg ia) (sz:=3) (bytes:=32) Y (wn rfl) ⟨rfl,rfl⟩ rfl cv aa rfl rfl (Y.ev rfl) (Y.ev rfl) Z (i:=2) rfl (Z.boxRd (i:=0) rfl) rfl (List.all_eq_true.1 rfl) ⟨ab,by decide⟩ fun a b _ _ Y Z=>?_;refine vf Y 7 7 fun _ Y=>?_;refine aM Y (wn rfl) ⟨rfl,rfl⟩ (Y.ev rfl) (Y.ev rfl) rfl aa Z (i:=1) rfl rfl rfl fun _ Z=>?_;rw[S] at Y Z;refine mM ?_;refine vf Y 8 8 fun _ Y=>?_;refine GO 3 ?_;intro _ Y;refine cU Y rfl (km _ _ ab _) fun _ Y=>?_;refine vf Y 8 8 fun _ Y=>?_;refine aM Y (wn rfl) ⟨rfl,rfl⟩ (Y.ev rfl) (Y.ev rfl) rfl aa Z (i:=1) rfl rfl rfl fun _ Z=>ah (aj (ai (ai (an ?_))));refine sv (v:=a7 (dL r s) a b) Y (ag aa aa (Y.ev rfl) (Z.cellsAll (i:=1) rfl)) fun _ Y=>?_;refine cN Y rfl Z (pk (dL r s) a b _ (by have q:=Z.rdOf (i:=2) rfl;exact(by unfold dL;rw[eo];exact q)) (fun y H=>by(have:y=⟨r.nx+1,r.r.s,s⟩:=by unfold dL at H;simpa using H.symm);rw[this];exact B) (.inr ho) (by unfold dL;simp;omega)) fun _ _ Y Z=>?_
    refine GO 15 ?_;intro _ Y;apply bI Y Z 57 rfl 4 61
    case hf=>
     intro T;refine sy Y (fx 8 8 (Y.ev rfl)) fun _ Y=>?_;refine GO 3 ?_;intro _ Y;exact ah ⟨Y.midE 3,Z⟩
    case ht=>
     intro T;refine GO 4 ?_;intro _ Y;exact ah ⟨Y.midE 3,Z⟩
    case h=>
     rintro Jv Zr ⟨l,j⟩
     refine ah (aj ?_);refine ak (l.ev rfl) (fun D=>?_) (fun D=>?_)
     ·
      have hf:eN r s=16:=by
       unfold eN;rw[if_neg f,if_neg ab,if_neg ab];exact if_pos (show r.pg-2<(cL (dL r s)).2∨100000000<r.nx+kb s.size by simpa [Bool.or_eq_true] using D)
      have e3:fM r s=du:=by unfold fM;rw[if_neg (by rw[hf];decide)]
      refine ai (an ?_);refine sv l (ag aa aa (l.ev rfl) (j.cellsAll (i:=3) rfl)) fun _ Y=>?_;refine sw Y j 4 fun _ Z=>?_;refine GO 6 ?_;intro _ Y;refine k7 Y rfl rfl rfl rfl Z (i:=4) rfl aa aa ?_;exact⟨none,0,by rw[hf,e3];rfl,by rw[e3];exact World.ownsRow_nil _ _ _ _,Z.below⟩
     ·
      have hf:eN r s=0:=by
       unfold eN;rw[if_neg f,if_neg ab,if_neg ab];exact if_neg (show ¬(r.pg-2<(cL (dL r s)).2∨100000000<r.nx+kb s.size) by simpa [Bool.or_eq_false_iff,not_or] using D)
      have e3:fM r s=dL r s:=by unfold fM;rw[if_pos hf]
      refine wp_skip (aj (ai ?_));apply iS (m:=4) l (St.domAt j (i:=4) rfl) 0 [false,false,false,false,true] _ aa
      case h=>
       refine qv (v:=a7 (dL r s) a b) l (fun X n=>ag aa aa (l.ev rfl) ((j.growO (i:=4) rfl n).cellsAll (i:=1) rfl)) fun _ Y=>?_;refine qv Y (fun X n=>fx 8 8 (Y.ev rfl)) fun _ Y=>?_;refine qv Y (fun X n=>lx (Y.ev rfl) ((j.growO (i:=4) rfl n).cell (i:=5) rfl rfl)) fun _ Y=>?_;refine GO 2 ?_;intro _ Y;apply jY (k:=4) (deps:=[]) (R:=IsBox _ _ _) Y rfl rfl IsBox.stable (fun X n hΦ=>nn rfl (Y.ev rfl) (Y.ev rfl) rfl aa ((j.grow n).at_ (i:=4) rfl) rfl rfl);intro C;refine nh fun _ L O=>?_;have Z:=j.growBox (i:=4) (v:=C) rfl L (aF O (k:=4) rfl);refine GO 5 ?_;intro _ Y;refine k7 Y rfl rfl rfl rfl Z (i:=4) rfl aa aa ?_;refine⟨a,b,by rw[hf,e3];rfl,?_,Z.below⟩;rw[e3];have q:=Z.ownB (i:=2) rfl;have e4:aJ (dL r s).rs=aJ r.rs ++ aJ [(⟨r.nx+1,r.r.s,s⟩:RecP)]:=eo _ _;rw[e4];exact q
      case hB=>kernel_rfl
      case hst=>rfl
theorem aR (a:Int) (l:List Int):aw (a::l)=if a=0 then aw l else a:=by
 by_cases h:a=0
 · rw[if_pos h,h];rfl
 · rw[if_neg h];simp[aw,h]
def lB (r:RngP) (o:Int) (i:Nat):List RecP:=(r.rs.take i).filter fun x=>decide (o≤x.l)
theorem rD {r:RngP} {o:Int} {i:Nat} (h:i<r.rs.length):lB r o (i+1)=if o≤r.rs[i].l then lB r o i ++ [r.rs[i]] else lB r o i:=by
 unfold lB;rw[List.take_add_one,List.getElem?_eq_getElem h,Option.toList,List.filter_append];by_cases a:o≤r.rs[i].l
 · rw[if_pos a];simp[a]
 · rw[if_neg a];simp[a]
theorem uf (r:RngP) (o:Int) (i:Nat):(lB r o i).length≤i:=by
 unfold lB;have:=List.length_filter_le (fun x=>decide (o≤x.l)) (r.rs.take i);have:=List.length_take_le i r.rs;omega
theorem pW (r:RngP) (A:Option Addr) (c:Nat) (f a:Int) (w:World) (hr:Rd w w.heap.size A (aJ r.rs)) (V:OkP r) (hi:I6 f∧I6 a) :
 Calls Tryz.prog 121 #[a7 r A c,ae f,ae a] w fun e w'=>∃A' c',e=.returned (.tuple #[a7 (kK r f a) A' c',ae (iQ r f a)])∧w'.ownsRow w.heap.size 177 3 (.slice A' (kK r f a).rs.length c') (kK r f a).rs.length (aJ (kK r f a).rs)∧Below w.heap.size w w':=by
 have n:r.rs.length≤1000:=by have:=V.h.len;omega
 have Vd:=V.h.nx;have Vf:=V.h.rr;have Jx:=gB (p:=r.nx);unfold I6 at hi;refine aq (N:=91) Tryz.func121 rfl rfl rfl (fun _ K=>?_);have Z:=St.init w;refine ai (an ?_);refine nb K rfl rfl Z fun b3 _ _ Zu H Z=>na (.agg ef) H rfl Z fun b6 _ _ Zv F Z=>GO 5 ?_;intro _ Y;refine sv Y (ay (zs:=jG) (pl:=jF) aa aa (Y.evs2 rfl) rfl rfl) fun _ Y=>?_;refine na (.agg ef) Y rfl Z fun b8 _ _ Zw Y Z=>sw Y Z 0 fun _ Z=>?_;refine mM ?_;refine sv (v:=a7 r A c) Y (ag aa aa (Y.ev rfl) (Z.cellsAll (i:=2) rfl)) fun _ Y=>?_;refine jg Y (wn rfl) (az bc (Y.evs rfl) rfl) rfl rfl Z (ua r A c _ (Z.rd0 hr) n ab) (Nat.le_refl _) fun Ve Jy _ _ Y Z=>?_;refine GO 3 ?_;intro _ Y;refine na (.agg ef) Y rfl Z fun b9 _ _ Zx Y Z=>sw Y Z 0 fun _ Z=>?_;refine GO 10 ?_;intro _ Y;refine ak (Y.ev rfl) (fun J=>?_) (fun J=>?_)
 ·
  have j:iQ r f a=jf r:=by
   unfold iQ;rw[aR,if_neg (ar J)]
  have Jw:jf r≠0:=ar J
  have e3:kK r f a=du:=by unfold kK;rw[if_neg (by rw[j];exact Jw)]
  refine ai (an ?_);refine sv Y (ag aa aa (Y.ev rfl) (Z.cellsAll (i:=2) rfl)) fun _ Y=>?_;refine GO 1 ?_;intro _ Y;refine sw Y Z 3 fun _ Z=>?_;refine GO 5 ?_;intro _ Y;refine br Y rfl rfl rfl Z (i:=3) rfl aa aa ?_;exact⟨none,0,by rw[j,e3];rfl,by rw[e3];exact World.ownsRow_nil _ _ _ _,Z.below⟩
 ·
  have I:jf r=0:=ar J
  have e3:ig r=rm r:=by unfold ig;rw[if_pos I]
  rw[e3] at Y Z;refine wp_skip (aj (ai (ai (an ?_))));refine sv (v:=a7 r A c) Y (ag aa aa (Y.ev rfl) (Z.cellsAll (i:=4) rfl)) fun _ Y=>?_;refine GO 1 ?_;intro _ Y;refine cN Y rfl Z (o3 r A c a _ (Z.rd0 hr) n) fun _ _ Y Z=>?_;refine GO 2 ?_;intro _ Y;apply bo Y Z 26 rfl 6 32
  case ht=>
   intro Zl;refine GO 1 ?_;intro _ Y;refine sy Y (fx 8 8 (Y.ev rfl)) fun _ Y=>?_;refine GO 1 ?_;intro _ Y;refine sy Y (cy (Y.ev rfl) (Y.ev rfl) ⟨by show _≤cp r.nx+1;omega,by show cp r.nx+1<_;omega⟩) fun _ Y=>?_;refine GO 2 ?_;intro _ Y;exact ah ⟨Y.midE 5,Z⟩
  case hf=>
   intro Zl;refine GO 6 ?_;intro _ Y;exact ah ⟨Y.midE 5,Z⟩
  case h=>
   rintro Jz Zy ⟨Zm,B⟩
   refine ah (aj ?_);refine ak (Zm.ev rfl) (fun E=>?_) (fun E=>?_)
   ·
    have j:iQ r f a=6:=by
     rw[Bool.and_eq_true,Bool.not_eq_true',bne_iff_ne] at E;unfold iQ;rw[aR,if_pos I,aR]
     have:(a==cp r.nx+1||ec r.rs a)=false:=by
      rw[Bool.or_eq_false_iff,E.1];exact⟨by rw[beq_eq_false_iff_ne];exact E.2,rfl⟩
     rw[this];rfl
    have t:kK r f a=du:=by unfold kK;rw[if_neg (by rw[j];decide)]
    refine ai (an ?_);refine sv Zm (ag aa aa (Zm.ev rfl) (B.cellsAll (i:=2) rfl)) fun _ Y=>?_;refine sw Y B 3 fun _ Z=>?_;refine GO 5 ?_;intro _ Y;refine br Y rfl rfl rfl Z (i:=3) rfl aa aa ?_;exact⟨none,0,by rw[j,t];rfl,by rw[t];exact World.ownsRow_nil _ _ _ _,Z.below⟩
   ·
    have H:(a==cp r.nx+1||ec r.rs a)=true:=by
     cases h:ec r.rs a with
     | true=>simp
     | false=>
      rw[h] at E
      have F:(a != cp r.nx+1)=false:=by
       have Y:(!false&&(a != cp r.nx+1))=false:=E
       simpa using Y
      rw[bne_eq_false_iff_eq] at F;rw[F];simp
    refine GO 8 ?_;intro _ Y;apply bo Y B 36 rfl 10 46
    case ht=>
     intro Ze;refine aT (v:=a7 r A c) Y (ao Y _ rfl rfl rfl Ze) (ag aa aa (Y.ev rfl) (B.cellsAll (i:=4) rfl)) rfl rfl fun _ Y=>GO 1 ?_;intro _ Y;refine dk Y (ao Y _ rfl rfl rfl Ze) (az bc (Y.evs rfl) rfl) rfl rfl B (o3 r A c f _ (B.rd0 hr) n) fun _ _ Y Z=>GO 2 ?_;intro _ Y;apply bI Y Z 41 rfl 4 45
     case hf=>
      intro Zn;refine GO 4 ?_;intro _ Y;exact ah ⟨Y.midE 3,Z⟩
     case ht=>
      intro Zn;refine GO 4 ?_;intro _ Y;exact ah ⟨Y.midE 3,Z⟩
     case h=>
      rintro Vc Zz ⟨Qa,Zs⟩
      refine GO 1 ?_;intro _ Y;exact ah ⟨Y.midE 6,Zs⟩
    case hf=>
     intro Ze;refine GO 5 ?_;intro _ Y;refine cg Y (aC Y _ rfl rfl rfl) rfl rfl fun _ Y=>cg Y (aC Y _ rfl rfl rfl) rfl rfl fun _ Y=>cg Y (aC Y _ rfl rfl rfl) rfl rfl fun _ Y=>GO 2 ?_;intro _ Y;exact ah ⟨Y.midE 9,B⟩
    case h=>
     rintro Va Qb ⟨S,D⟩
     refine ah (aj ?_);refine ak (S.ev rfl) (fun C=>?_) (fun C=>?_)
     ·
      have j:iQ r f a=6:=by
       rw[Bool.and_eq_true,bne_iff_ne] at C;unfold iQ;rw[aR,if_pos I,aR,H,if_pos (fg 6),aR]
       have:(f==0||(decide (a≤f)&&ec r.rs f))=false:=by
        rw[Bool.or_eq_false_iff];refine⟨by rw[beq_eq_false_iff_ne];exact C.1,?_⟩
        cases h:ec r.rs f with
        | false=>simp
        | true=>
         rw[h] at C;have Y:f<a:=ar C.2;rw[decide_eq_false ab];rfl
       rw[this];rfl
      have t:kK r f a=du:=by unfold kK;rw[if_neg (by rw[j];decide)]
      refine ai (an ?_);refine sv S (ag aa aa (S.ev rfl) (D.cellsAll (i:=2) rfl)) fun _ Y=>?_;refine sw Y D 3 fun _ Z=>?_;refine GO 5 ?_;intro _ Y;refine br Y rfl rfl rfl Z (i:=3) rfl aa aa ?_;exact⟨none,0,by rw[j,t];rfl,by rw[t];exact World.ownsRow_nil _ _ _ _,Z.below⟩
     ·
      have F:(f==0||(decide (a≤f)&&ec r.rs f))=true:=by
       by_cases K:f=0
       · rw[K];rfl
       · have Zt:(f != 0)=true:=by rw[bne_iff_ne];exact K
         rw[Zt,Bool.true_and,Bool.or_eq_false_iff,decide_eq_false_iff_not] at C;rw[show ec r.rs f=true from ar C.1,decide_eq_true ab];simp
      refine GO 6 ?_;intro _ Y;refine vf Y 0 1 fun _ Y=>?_;refine GO 4 ?_;intro _ Y;refine ak (Y.ev rfl) (fun M=>?_) (fun M=>?_)
      ·
       have j:iQ r f a=2:=by
        have Y:=eq_of_beq M;unfold iQ;rw[aR,if_pos I,aR,H,if_pos (fg 6),aR,F,if_pos (fg 6),aR,Y];rfl
       have t:kK r f a=du:=by unfold kK;rw[if_neg (by rw[j];decide)]
       refine ai (an ?_);refine sv Y (ag aa aa (Y.ev rfl) (D.cellsAll (i:=2) rfl)) fun _ Y=>?_;refine sw Y D 3 fun _ Z=>?_;refine GO 5 ?_;intro _ Y;refine br Y rfl rfl rfl Z (i:=3) rfl aa aa ?_;exact⟨none,0,by rw[j,t];rfl,by rw[t];exact World.ownsRow_nil _ _ _ _,Z.below⟩
      ·
       have j:iQ r f a=0:=by
        have Y:r.r.s<60000:=by
         have:¬r.r.s=60000:=by intro h;rw[h] at M;exact absurd M au
         omega
        unfold iQ;rw[aR,if_pos I,aR,H,if_pos (fg 6),aR,F,if_pos (fg 6),aR,decide_eq_true Y];rfl
       have t:kK r f a=gh r f a:=by unfold kK;rw[if_pos j]
       refine GO 5 ?_;intro _ Y;refine sv Y (ag aa aa (Y.ev rfl) (D.cellsOf (i:=4) rfl 1 3)) fun _ Y=>?_;refine vf Y 4 4 fun _ Y=>?_;refine aM Y (wn rfl) ⟨rfl,rfl⟩ (Y.ev rfl) (Y.ev rfl) rfl aa D (i:=0) rfl rfl rfl fun _ Z=>GO 5 ?_;intro _ Y;refine vf Y 0 1 fun _ Y=>?_;refine GO 4 ?_;intro _ Y;refine sv Y (ay (zs:=jV) (pl:=fE) aa aa (Y.evs2 rfl) rfl rfl) fun _ Y=>?_;refine GO 1 ?_;intro _ Y;refine aM Y (wn rfl) ⟨rfl,rfl⟩ (Y.ev rfl) (Y.ev rfl) rfl aa Z (i:=0) rfl rfl rfl fun _ Z=>mM ?_;refine vf Y 7 7 fun _ Y=>?_;refine aM Y (wn rfl) ⟨rfl,rfl⟩ (Y.ev rfl) (Y.ev rfl) rfl aa Z (i:=0) rfl rfl rfl fun _ Z=>GO 6 ?_;intro _ Y;replace Z:=St.nilRow Z 177 3;refine ah (aj (wp_block ?_));refine aY Y Z [9,7,6,3,2] (fun (q:Nat × Option Addr × Nat)=>[(11,ae (q.1:Int))]) (fun (q:Nat × Option Addr × Nat)=>q.1≤r.rs.length) (fun q L=>(L.set 0 (.row (.slice q.2.1 (lB r a q.1).length q.2.2) (lB r a q.1).length 177 3 (aJ (lB r a q.1)))).set 1 (.box b9 #[ae r.pg,ae (r.r.s+1),ae f,ae a,ae r.r.s,ae r.r.c,ae r.r.o,.slice q.2.1 (lB r a q.1).length q.2.2,ae (cp r.nx)] 73)) (fun (q:Nat × Option Addr × Nat)=>r.rs.length-q.1) ((0,none,0)) ((Nat.zero_le _)) bN (Z) ?_;intro q _ _ Qc Y y;refine GO 4 ?_;intro _ Y;refine vf Y 7 7 fun _ Y=>?_;refine GO 5 ?_;intro _ Y;refine ak (Y.ev rfl) (fun Q=>?_) (fun Q=>?_)
       ·
        have u:q.1<r.rs.length:=by have:=of_decide_eq_true Q;omega
        obtain⟨b,o,rfl,_⟩:=hr.opened (by rw[bw];omega);have Vb:=uf r a q.1;refine wp_skip (aj (ai (wp_block (ai (an ?_)))));refine vf Y 7 7 fun _ Y=>?_;refine GO 2 ?_;intro _ Y;refine sv Y (av (i:=q.1) (sz:=3) cv aa (Y.ev rfl) (Y.ev rfl) ab ab rfl) fun _ Y=>?_;refine sv Y (fy 0 (Y.ev rfl)) fun _ Y=>?_;refine sv Y (lx (Y.ev rfl) ((recAt (y.rd0 hr) u) 0 _ rfl)) fun _ Y=>?_;refine GO 4 ?_;intro _ Y;refine ak (Y.ev rfl) (fun W=>?_) (fun W=>?_)
        ·
         have m:=rD (o:=a) u;rw[if_pos (of_decide_eq_true W)] at m
         have e5:(lB r a (q.1+1)).length=(lB r a q.1).length+1:=by rw[m,List.length_append];rfl
         apply aK Y [false,false,false,false,false,false,false,true] _ aa
         case h=>
          refine qv Y (fun X G=>fx 7 7 (Y.ev rfl)) fun _ Y=>?_;refine GO 1 ?_;intro _ Y;refine qv Y (fun X G=>fx 7 7 (Y.ev rfl)) fun _ Y=>?_;refine GO 2 ?_;intro _ Y;refine qv Y (fun X G=>av (i:=q.1) (sz:=3) cv aa (Y.ev rfl) (Y.ev rfl) ab ab rfl) fun _ Y=>?_;refine qv (v:=ik r.rs[q.1]) Y (fun X G=>ag aa aa (Y.ev rfl) (recAt ((y.grow G).rd0 hr) u)) fun _ Y=>?_;refine ax ?_;apply eF (k:=7) (deps:=[]) (R:=NewB _ (fun b=>.slice (some ⟨b,0,none⟩) 1 1) _ _) Y rfl rfl rfl NewB.stable (fun X G hΦ=>gK (dw (cs:=recC r.rs[q.1]) (zc:=kQ) (sz:=3) rfl cv aa aa rfl rfl rfl (Y.evs2 rfl) rfl rfl rfl) G.size);intro Vg _ Y;refine aV fun _ Zc Zi=>?_;have Z:=y.grow Zc;have O:=aF Zi (k:=7) rfl;obtain⟨Vh,rfl,Zr,O⟩:=O;have Z:=y.add Zc (e:=.box _ _ _) O (fun b hb=>by cases hb;exact⟨Zr,Box.lt O⟩);refine bP (z:=.agg ia) (sz:=3) (bytes:=32) Y (wn rfl) ⟨rfl,rfl⟩ rfl cv aa rfl rfl (Y.ev rfl) (Y.ev rfl) Z (i:=1) rfl (Z.boxRd (i:=0) rfl) rfl (List.all_eq_true.1 rfl) ⟨ab,by decide⟩ fun T Jv _ _ Y Z=>?_;refine vf Y 7 7 fun _ Y=>?_;refine aM Y (wn rfl) ⟨rfl,rfl⟩ (Y.ev rfl) (Y.ev rfl) rfl aa Z (i:=2) rfl rfl rfl fun _ Z=>?_;replace Z:=Z.xsEq (i:=1) (xs':=aJ (lB r a (q.1+1))) rfl (by rw[m,eo];rfl);rw[←e5] at Z;refine GO 9 ?_;intro _ Y;exact⟨(q.1+1,T,Jv),(by show r.rs.length-(q.1+1)<r.rs.length-q.1;omega),(by show q.1+1≤r.rs.length;omega),Y.re bN,Z.sub (aL 126)⟩
         case hB=>kernel_rfl
         case hst=>rfl
        ·
         have m:=rD (o:=a) u;rw[if_neg (of_decide_eq_false W)] at m;rw[←m] at y;refine GO 9 ?_;intro _ Y;exact⟨(q.1+1,q.2.1,q.2.2),(by show r.rs.length-(q.1+1)<r.rs.length-q.1;omega),(by show q.1+1≤r.rs.length;omega),Y.re bN,y⟩
       ·
        have U:q.1=r.rs.length:=by have:=of_decide_eq_false Q;omega
        refine wp_exit ?_;refine dt ?_;refine dt ?_;refine oP ?_;refine aj (ai (an ?_));refine sv Y (ag aa aa (Y.ev rfl) (y.cellsAll (i:=1) rfl)) fun _ Y=>?_;refine sw Y y 4 fun _ Z=>?_;refine GO 4 ?_;intro _ Y;refine br Y rfl rfl rfl Z (i:=4) rfl aa aa ?_
        have e6:lB r a q.1=r.rs.filter fun x=>decide (a≤x.l):=by unfold lB;rw[U,List.take_length]
        rw[e6] at Z;exact⟨q.2.1,q.2.2,by rw[j,t,e6];rfl,by rw[t];exact Z.ownB (i:=0) rfl,Z.below⟩
variable {ds:List Deferred}
open Go.RowKit Go.Sort
variable {ds:List Deferred}
theorem iR {r:RngP} {e:Int} (h:eS r=e) (a:e≠0):bJ r=(0,e):=by
 unfold bJ;rw[if_pos (by rw[h];exact a),h]
theorem kv {r:RngP} {k:Nat} {e:Int} (f:eS r=0) (j:k<r.rs.length) (a:∀m (hm:m<r.rs.length),m<k→eC r.r.o r.r.s (bS r.rs m) r.rs[m]=0) (h:eC r.r.o r.r.s (bS r.rs k) r.rs[k]=e) (c:e≠0):bJ r=((k:Int),e):=by
 have Y:=dB (fun i x=>eC r.r.o r.r.s (bS r.rs i) x) r.rs 0 k j (fun m hm b=>by rw[Nat.zero_add];exact a m hm b) (by rw[Nat.zero_add,h];exact c);rw[Nat.zero_add,h] at Y;have Y:j7 r=((k:Int),e):=Y;unfold bJ;rw[if_neg (by rw[f];decide),Y,if_pos c]
theorem BQ {r:RngP} (b:eS r=0) (a:∀m (hm:m<r.rs.length),eC r.r.o r.r.s (bS r.rs m) r.rs[m]=0):bJ r=(0,jH r):=by
 have Y:=dc (fun i x=>eC r.r.o r.r.s (bS r.rs i) x) r.rs 0 (fun m hm=>by rw[Nat.zero_add];exact a m hm);have Y:j7 r=(0,0):=Y;unfold bJ;rw[if_neg (by rw[b];decide),Y,if_neg au]
def atR (r:RngP) (k:Nat):Int:=match bS r.rs k with
 | none=>r.r.o-1
 | some y=>dG y
def Fy (r:RngP) (k:Nat):Int:=match bS r.rs k with
 | none=>0
 | some y=>y.s
theorem qz {l:List RecP} {k:Nat} (a:0<k) (b:k≤l.length):∃y,bS l k=some y:=by
 unfold bS;rw[if_neg ab,List.getElem?_eq_getElem ab];exact⟨_,rfl⟩
theorem AX (r:RngP) (j:r.r.o≤100000000) (f:r.rs.length≤1000) (k:Nat) (p:k≤r.rs.length) (h:∀m (hm:m<r.rs.length),m<k→eC r.r.o r.r.s (bS r.rs m) r.rs[m]=0):∀y,bS r.rs k=some y→Bfr y∧y.l≤104000000∧1≤y.s∧y.s≤r.r.s:=fun y b=>by
 unfold bS at b
 split at b
 · cases b
 · rename_i n
   have a:k-1<r.rs.length:=by omega
   rw[List.getElem?_eq_getElem a] at b;injection b with b;have e:=mu r j (k-1) a (fun m hm i=>h m hm ab);have c:=(recE_zero.1 (h (k-1) a ab)).2.2.2.1;rw[inB_true] at c;rw[b] at e c;exact⟨⟨e.1,by omega,e.2.2⟩,by omega,c⟩
theorem BK {r:RngP} {k:Nat} {x:RecP} (c:k≤r.rs.length) (f:1≤x.s):(decide (x.s<Fy r k)||(decide ((k:Int)>0)&&decide (x.s>Fy r k)&&((x.l-1) % 448 != 0)))=!seqB (bS r.rs k) x:=by
 unfold Fy;rcases Nat.eq_zero_or_pos k with a | a
 · subst a
   have:bS r.rs 0=none:=rfl;rw[this];simp only[seqB];simp;omega
 · obtain⟨y,e⟩:=qz a c
   rw[e];simp only[seqB];rw[decide_eq_true (show(k:Int)>0 by omega),Bool.true_and];rcases Int.lt_trichotomy x.s y.s with h | h | h
   · have b:(x.s==y.s)=false:=by rw[beq_eq_false_iff_ne];omega
     rw[decide_eq_true h,b,decide_eq_false (show ¬y.s<x.s by omega)];rfl
   · rw[h,decide_eq_false (show ¬y.s<y.s by omega)];simp
   · have b:(x.s==y.s)=false:=by rw[beq_eq_false_iff_ne];omega
     rw[decide_eq_false (show ¬x.s<y.s by omega),b,decide_eq_true h];simp[bne]
theorem ub {l:List RecP} {k:Nat} (h:k<l.length):bS l (k+1)=some l[k]:=by
 unfold bS;rw[if_neg ab,show k+1-1=k by omega,List.getElem?_eq_getElem h]
theorem FG {o:Int} {f:Option RecP} {x:RecP} (h:fu o f x=true) (b:o≤100000000) (hf:∀y,f=some y→Bfr y):1≤x.l∧x.l≤700000001:=by
 cases f with
 | none=>
  simp only[fu,Bool.and_eq_true,beq_iff_eq,decide_eq_true_eq] at h;omega
 | some y=>
  have a:=(hf y rfl).bd;simp only[fu,Bool.or_eq_true,beq_iff_eq] at h;omega
theorem rU {r:RngP} {e:Int} (h:fI r=e) (a:e≠0):jH r=e:=by
 unfold jH;rw[aR,if_neg (by rw[h];exact a),h]
theorem pb (r:RngP) (A:Option Addr) (c:Nat) (w:World) (hr:Rd w w.heap.size A (aJ r.rs)) (C:r.rs.length≤1000) (hx:∀x∈r.rs,I6 x.l) :
 bz 177 #[a7 r A c] w (.tuple #[ae (bJ r).1,ae (bJ r).2]):=by
 refine aq (N:=208) Tryz.func177 rfl rfl rfl (fun _ h0=>?_);have Z:=St.init w;refine ai (an ?_);refine nb h0 rfl rfl Z fun b1 _ _ Jq O Z=>GO 1 ?_;intro _ h2;refine GO 8 ?_;intro _ Y;refine cU Y rfl (rB _ _) fun _ Y=>?_;refine GO 9 ?_;intro _ Y;refine ak (Y.ev rfl) (fun Qo=>?_) (fun Qo=>?_)
 ·
  have a:bJ r=(0,j3 r.pg):=iR (by unfold eS;rw[aR,if_neg (ar Qo)]) (ar Qo);refine GO 9 ?_;intro _ Y;refine cd Y rfl rfl rfl ?_;exact⟨by rw[a],Z.below⟩
 ·
  have B:j3 r.pg=0:=ar Qo;refine GO 6 ?_;intro _ Y;refine sv (v:=oC r.r) Y (ag aa aa (Y.ev rfl) (Z.cellsOf (i:=0) rfl 1 3)) fun _ Y=>?_;refine cN Y rfl Z (jD r.r _) fun _ _ Y Zx=>?_;refine GO 9 ?_;intro _ Y;refine ak (Y.ev rfl) (fun Qp=>?_) (fun Qp=>?_)
  ·
   have a:bJ r=(0,fK r.r):=iR (by unfold eS;rw[aR,if_pos B,aR,if_neg (ar Qp)]) (ar Qp);refine GO 9 ?_;intro _ Y;refine cd Y rfl rfl rfl ?_;exact⟨by rw[a],Zx.below⟩
  ·
   have H:fK r.r=0:=ar Qp;have Wa:=tw ((aD au).1 H);refine wp_skip (aj (ai (ai (an ?_))));refine vf Y 4 4 fun _ Y=>?_;refine sv (v:=oC r.e) Y (ag aa aa (Y.ev rfl) (Zx.cellsOf (i:=0) rfl 4 3)) fun _ Y=>?_;refine sv (v:=oC rst0) Y (ay (zs:=jV) (pl:=fE) aa aa (Y.evs2 rfl) rfl rfl) fun _ Y=>?_;refine sv Y (h7 (ks:=[.i .i64,.i .i64,.i .i64]) aa vi aa (Y.ev rfl) (Y.ev rfl) rfl rfl) fun _ Qq=>?_;refine ah (aj ?_);refine mv (F:=jP r=0) Qq Zx [] [1] ?_ (fun _ _ Y Z E=>?_)
   ·
    refine ak (Qq.ev rfl) (fun Qt=>?_) (fun Qt=>?_)
    ·
     have z:¬r.e=rst0:=by
      have I:(!jO [ae r.e.s,ae r.e.c,ae r.e.o] [ae rst0.s,ae rst0.c,ae rst0.o])=true:=Qt;rw[jy] at I;simpa using I
     refine ai (ai (an ?_));refine vf Qq 4 4 fun _ Y=>?_;refine sv (v:=oC r.e) Y (ag aa aa (Y.ev rfl) (Zx.cellsOf (i:=0) rfl 4 3)) fun _ Y=>?_;refine cN Y rfl Zx (jD r.e _) fun _ _ Y Z=>?_;refine GO 9 ?_;intro _ Y;refine ak (Y.ev rfl) (fun Zy=>?_) (fun Zy=>?_)
     ·
      have S:jP r=fK r.e:=by unfold jP;rw[if_neg z,aR,if_neg (ar Zy)]
      have a:bJ r=(0,fK r.e):=iR (by unfold eS;rw[aR,if_pos B,aR,if_pos H,aR,if_neg (by rw[S];simpa using Zy),S]) (ar Zy);refine GO 11 ?_;intro _ Y;refine cd Y rfl rfl rfl ?_;exact⟨by rw[a],Z.below⟩
     ·
      have Vg:fK r.e=0:=ar Zy;refine wp_skip (aj (ai (an ?_)));refine vf Y 4 4 fun _ Y=>?_;refine vf Y 0 4 fun _ Y=>?_;refine GO 2 ?_;intro _ Y;refine vf Y 0 1 fun _ Y=>?_;refine GO 5 ?_;intro _ Y;refine ak (Y.ev rfl) (fun Qu=>?_) (fun Qu=>?_)
      ·
       have a:bJ r=(0,9):=iR (by
        have:(r.e.s==r.r.s-1)=false:=by rw[beq_eq_false_iff_ne];simpa using Qu
        unfold eS jP;rw[aR,if_pos B,aR,if_pos H,aR,if_neg z,aR,if_pos Vg,aR,this];rfl) au
       refine GO 9 ?_;intro _ Y;refine cd Y rfl rfl rfl ?_;exact⟨by rw[a],Z.below⟩
      ·
       have E:jP r=0:=by
        have:(r.e.s==r.r.s-1)=true:=by rw[beq_iff_eq];simpa using Qu
        unfold jP;rw[if_neg z,aR,if_pos Vg,aR,this];rfl
       refine wp_skip (aj ?_);exact⟨Y.re ⟨rfl,trivial⟩,Z,E⟩
    ·
     have Vk:r.e=rst0:=by
      have I:(!jO [ae r.e.s,ae r.e.c,ae r.e.o] [ae rst0.s,ae rst0.c,ae rst0.o])=false:=Qt;rw[jy] at I;simpa using I
     have E:jP r=0:=by unfold jP;rw[if_pos Vk]
     refine wp_skip (aj ?_);exact⟨Qq.re ⟨rfl,trivial⟩,Zx,E⟩
   ·
    refine aj (ai (ai (an ?_)));refine vf Y 8 8 fun _ Y=>?_;refine GO 1 ?_;intro _ Y;refine cU Y rfl (iv _ _) fun _ Y=>?_;refine GO 2 ?_;intro _ Y;apply bI Y Z 47 rfl 5 52
    case hf=>
     intro Zz;refine sy Y (fx 8 8 (Y.ev rfl)) fun _ Y=>?_;refine GO 1 ?_;intro _ Y;refine sy Y (kY (Y.ev rfl) (Y.ev rfl) ⟨by have:=inB_true.1 (by simpa using Zz:jr r.nx=true);omega,by omega⟩) fun _ Y=>?_;refine GO 2 ?_;intro _ Y;exact ah ⟨Y.midE 4,Z⟩
    case ht=>
     intro Zz;refine GO 5 ?_;intro _ Y;exact ah ⟨Y.midE 4,Z⟩
    case h=>
     rintro Wf Jr ⟨Ja,Qr⟩
     refine ah (aj ?_);refine ak (Ja.ev rfl) (fun Zm=>?_) (fun Zm=>?_)
     ·
      have a:bJ r=(0,2):=iR (by
       have:(jr r.nx&&r.nx % 8==0)=false:=by
        cases h:jr r.nx with
        | false=>rfl
        | true=>
         rw[h] at Zm
         simpa [bne] using Zm
       unfold eS;rw[aR,if_pos B,aR,if_pos H,aR,if_pos E,aR,this];rfl) au
      refine GO 8 ?_;intro _ Y;refine cd Y rfl rfl rfl ?_;exact⟨by rw[a],Qr.below⟩
     ·
      have Jx:(jr r.nx&&r.nx % 8==0)=true:=by
       cases h:jr r.nx with
       | false=>rw[h] at Zm;simp at Zm
       | true=>
        rw[h] at Zm
        simpa [bne] using Zm
      have Wd:=inB_true.1 (Bool.and_eq_true_iff.1 Jx).1;refine wp_skip (aj (ai (ai (an ?_))));refine vf Ja 7 7 fun _ Y=>?_;refine GO 5 ?_;intro _ Y;refine ak (Y.ev rfl) (fun Qv=>?_) (fun Qv=>?_)
      ·
       have a:bJ r=(0,8):=iR (by
        have Y:(r.rs.length:Int)>100:=of_decide_eq_true Qv
        have:decide (r.rs.length≤100)=false:=by rw[decide_eq_false_iff_not];omega
        unfold eS;rw[aR,if_pos B,aR,if_pos H,aR,if_pos E,aR,Jx,if_pos (fg 2),aR,this];rfl) au
       refine GO 8 ?_;intro _ Y;refine cd Y rfl rfl rfl ?_;exact⟨by rw[a],Qr.below⟩
      ·
       have Y:r.rs.length≤100:=by have:=of_decide_eq_false Qv;omega
       have hh:eS r=0:=by
        unfold eS;rw[aR,if_pos B,aR,if_pos H,aR,if_pos E,aR,Jx,if_pos (fg 2),aR,decide_eq_true Y];rfl
       refine GO 5 ?_;intro _ Y;refine vf Y 2 3 fun _ Y=>?_;refine GO 13 ?_;intro _ Y;refine aY Y Qr [1] (fun (k:Nat)=>[(9,ae (k:Int)),(7,ae (atR r k)),(8,ae (Fy r k))]) (fun (k:Nat)=>k≤r.rs.length∧∀m (hm:m<r.rs.length),m<k→eC r.r.o r.r.s (bS r.rs m) r.rs[m]=0) (fun (k:Nat) L=>L) (fun (k:Nat)=>r.rs.length-k) (0) (⟨Nat.zero_le _,fun m hm h=>by omega⟩) bN (Qr) ?_;intro k _ _ Jb Y Zn;refine GO 4 ?_;intro _ Y;refine vf Y 7 7 fun _ Y=>?_;refine GO 5 ?_;intro _ Y;refine ak (Y.ev rfl) (fun Qw=>?_) (fun Qw=>?_)
       ·
        have j:k<r.rs.length:=by have:=of_decide_eq_true Qw;omega
        obtain⟨b,o,rfl,_⟩:=hr.opened (by rw[bw];omega);obtain⟨_,f⟩:=Jb;have Vd:=AX r ab C k ab f;have Vq:I6 r.rs[k].l:=hx _ (List.getElem_mem j);unfold I6 at Vq;refine wp_skip (aj (ai (wp_block (ai (an ?_)))));refine vf Y 7 7 fun _ Y=>?_;refine GO 2 ?_;intro _ Y;refine sv Y (av (i:=k) (sz:=3) cv aa (Y.ev rfl) (Y.ev rfl) ab ab rfl) fun _ Y=>?_;refine sv (v:=ik r.rs[k]) Y (ag aa aa (Y.ev rfl) (recAt (Zn.rd0 hr) j)) fun _ Y=>?_;refine na (.agg ia) Y rfl Zn fun Wc _ _ Jf Y Z=>?_;refine sw Y Z 0 fun _ V=>?_;refine GO 11 ?_;intro _ Y;refine ak (Y.ev rfl) (fun Qs=>?_) (fun Qs=>?_)
        ·
         have a:bJ r=((k:Int),17):=kv hh j f (by unfold eC;rw[if_pos (by have:=eq_of_beq Qs;omega)]) au;refine GO 14 ?_;intro _ Y;refine cd Y rfl rfl rfl ?_;exact⟨by rw[a],V.below⟩
        ·
         have Ve:¬r.rs[k].b.size=0:=by intro h;rw[h] at Qs;exact absurd Qs au
         refine GO 11 ?_;intro _ Y;refine ak (Y.ev rfl) (fun Qx=>?_) (fun Qx=>?_)
         ·
          have a:bJ r=((k:Int),8):=kv hh j f (by unfold eC;rw[if_neg Ve,if_pos (by have:=of_decide_eq_true Qx;omega)]) au;refine GO 14 ?_;intro _ Y;refine cd Y rfl rfl rfl ?_;exact⟨by rw[a],V.below⟩
         ·
          have We:r.rs[k].b.size≤3000:=by have:=of_decide_eq_false Qx;omega
          have D:eC r.r.o r.r.s (bS r.rs k) r.rs[k]=if fu r.r.o (bS r.rs k) r.rs[k]=false then 9 else if bD r.rs[k].s 1 r.r.s=false then 2 else bF (seqB (bS r.rs k) r.rs[k]) 9:=by
           conv=>lhs;unfold eC
           rw[if_neg Ve,if_neg ab]
          refine GO 9 ?_;intro _ Ze;refine mv (F:=fu r.r.o (bS r.rs k) r.rs[k]=true) Ze V [] [84,83,81,80,79,78,76,75,74,73,10,72,71,70,69,68,65,64,63,62,61,9,7,8,1] ?_ (fun _ _ Y Z t=>?_)
          ·
           refine ak (Ze.ev rfl) (fun Zi=>?_) (fun Zi=>?_)
           ·
            have Jw:k=0:=by have:=eq_of_beq Zi;omega
            have K:bS r.rs k=none:=by rw[Jw];rfl
            have u:atR r k=r.r.o-1:=by unfold atR;rw[K]
            rw[u] at Ze;refine GO 5 ?_;intro _ Y;refine vf Y 2 3 fun _ Y=>?_;refine GO 3 ?_;intro _ Y;apply bI Y V 91 rfl 3 94
            case hf=>
             intro Qy;refine GO 3 ?_;intro _ Y;exact ah ⟨Y.midE 2,V⟩
            case ht=>
             intro Qy;refine GO 3 ?_;intro _ Y;exact ah ⟨Y.midE 2,V⟩
            case h=>
             rintro Vy Jg ⟨Jh,Zp⟩
             refine GO 1 ?_;intro _ Y;apply bI Y Zp 95 rfl 4 99
             case hf=>
              intro Qa;refine GO 1 ?_;intro _ Y;refine sy Y (kY (Y.ev rfl) (Y.ev rfl) ⟨by rw[Bool.or_eq_false_iff,decide_eq_false_iff_not] at Qa;omega,by omega⟩) fun _ Y=>?_;refine GO 2 ?_;intro _ Y;exact ah ⟨Y.midE 3,Zp⟩
             case ht=>
              intro Qa;refine GO 4 ?_;intro _ Y;exact ah ⟨Y.midE 3,Zp⟩
             case h=>
              rintro Vr Ji ⟨Zq,Qb⟩
              refine ah (aj ?_);refine ak (Zq.ev rfl) (fun T=>?_) (fun T=>?_)
              ·
               have a:bJ r=((k:Int),9):=kv hh j f (by
                rw[D,if_pos];rw[K];simp only[fu]
                cases O:(r.rs[k].l==r.r.o) with
                | false=>rfl
                | true=>
                 have I:(r.rs[k].l != r.r.o)=false:=by unfold bne;rw[O];rfl
                 rw[I,Bool.false_or] at T;by_cases h2:r.r.o-1<0
                 · rw[decide_eq_false ab];rfl
                 · rw[decide_eq_false h2,Bool.false_or] at T
                   rw[decide_eq_true ab]
                   have e2:((r.r.o-1) % 8==0)=false:=by
                    unfold bne at T;simpa using T
                   rw[e2];rfl) au
               refine GO 15 ?_;intro _ Y;refine cd Y rfl rfl rfl ?_;exact⟨by rw[a],Qb.below⟩
              ·
               have t:fu r.r.o (bS r.rs k) r.rs[k]=true:=by
                rw[Bool.or_eq_false_iff,Bool.or_eq_false_iff,decide_eq_false_iff_not,bne_eq_false_iff_eq,bne_eq_false_iff_eq] at T;rw[K];simp only[fu];rw[T.1.1,decide_eq_true ab,T.2];simp
               refine wp_skip (aj ?_);rw[←u] at Zq;exact⟨Zq.re bN,Qb,t⟩
           ·
            have Jw:0<k:=by
             have:¬(k:Int)=0:=by intro h;rw[h] at Zi;exact absurd Zi au
             omega
            obtain⟨y,G⟩:=qz Jw (by omega:k≤r.rs.length);have Jv:=Vd y G;have Vh:=Jv.1.bd
            have u:atR r k=dG y:=by unfold atR;rw[G]
            rw[u] at Ze;refine ai ?_;apply aK Ze (fA 12) _ aa
            case h=>
             refine GO 3 ?_;intro _ Y;refine qv Y (fun X M=>cy (Y.ev rfl) (Y.ev rfl) ⟨by omega,by omega⟩) fun _ Y=>?_;refine GO 2 ?_;intro _ Y;apply mV Y 106 rfl 6 112
             case ht=>
              intro Zl;refine GO 3 ?_;intro _ Y;refine oL Y (ao Y _ rfl rfl rfl Zl) rfl rfl (fun X=>(az bc (Y.evs rfl) rfl)) (fun X M=>lg _ ab _) fun _ Y=>?_;refine qy Y (fun X M=>(cy (Y.ev rfl) (Y.ev rfl) ⟨by omega,by omega⟩)) fun _ Y=>?_;refine GO 1 ?_;intro _ Y;exact ax (Y.midE 5)
             case hf=>
              intro Zl;refine GO 6 ?_;intro _ Y;exact ax ⟨_,Y.midE 5⟩
             case h=>
              intro Vx _ Jy Y;refine ax ?_;refine aV fun _ Qc Jc=>?_;have Z:=V.grow Qc;refine sv Y (eO (Y.ev rfl) (Y.ev rfl) Jy (Y.ev rfl)) fun _ Y=>?_;refine ah (aj ?_);refine ak (Y.ev rfl) (fun Zr=>?_) (fun Zr=>?_)
              ·
               have a:bJ r=((k:Int),9):=kv hh j f (by
                rw[D,if_pos];rw[G];simp only[fu];rw[Bool.and_eq_true,bne_iff_ne,bne_iff_ne] at Zr;rw[Bool.or_eq_false_iff,beq_eq_false_iff_ne,beq_eq_false_iff_ne]
                omega) au
               refine GO 15 ?_;intro _ Y;refine cd Y rfl rfl rfl ?_;exact⟨by rw[a],Z.below⟩
              ·
               have t:fu r.r.o (bS r.rs k) r.rs[k]=true:=by
                rw[G];simp only[fu];rw[Bool.or_eq_true,beq_iff_eq,beq_iff_eq];by_cases O:r.rs[k].l=dG y+1
                · omega
                · have I:(r.rs[k].l != dG y+1)=true:=by rw[bne_iff_ne];exact O
                  rw[I,Bool.true_and,bne_eq_false_iff_eq] at Zr;omega
               refine wp_skip (aj ?_);rw[←u] at Y;exact⟨Y.re bN,Z,t⟩
            case hB=>kernel_rfl
            case hst=>rfl
          ·
           have Wg:=FG t ab (fun y G=>(Vd y G).1);rw[if_neg (by rw[t];decide)] at D;refine GO 7 ?_;intro _ Y;refine vf Y 0 1 fun _ Y=>?_;refine GO 1 ?_;intro _ Y;refine cU Y rfl (bu _ _ _ _) fun _ Y=>?_;refine GO 3 ?_;intro _ Y;refine ak (Y.ev rfl) (fun Zs=>?_) (fun Zs=>?_)
           ·
            have a:bJ r=((k:Int),2):=kv hh j f (by
             rw[D,if_pos (ar Zs)]) au
            refine GO 14 ?_;intro _ Y;refine cd Y rfl rfl rfl ?_;exact⟨by rw[a],Z.below⟩
           ·
            have Vf:bD r.rs[k].s 1 r.r.s=true:=ar Zs;have Va:=inB_true.1 Vf;rw[if_neg (by rw[Vf];decide)] at D;have Vb:=BK (x:=r.rs[k]) (by omega:k≤r.rs.length) Va.1;refine GO 10 ?_;intro _ Y;apply bI Y Z 127 rfl 16 143
            case hf=>
             intro Qd;refine GO 3 ?_;intro _ Y;apply bo Y Z 130 rfl 5 135
             case ht=>
              intro Qe;refine GO 5 ?_;intro _ Y;exact ah ⟨Y.midE 4,Z⟩
             case hf=>
              intro Qe;refine GO 5 ?_;intro _ Y;exact ah ⟨Y.midE 4,Z⟩
             case h=>
              rintro Vw Jj ⟨Jk,Zt⟩
              refine GO 1 ?_;intro _ Y;apply bo Y Zt 136 rfl 6 142
              case ht=>
               intro Qf;refine GO 2 ?_;intro _ Y;refine sy Y (fp (Y.ev rfl) (Y.ev rfl) ⟨by omega,by omega⟩) fun _ Y=>?_;refine sy Y (kY (Y.ev rfl) (Y.ev rfl) ⟨by omega,by omega⟩) fun _ Y=>?_;refine GO 2 ?_;intro _ Y;exact ah ⟨Y.midE 5,Zt⟩
              case hf=>
               intro Qf;refine GO 6 ?_;intro _ Y;exact ah ⟨Y.midE 5,Zt⟩
              case h=>
               rintro Vt Jl ⟨Jm,Qz⟩
               refine GO 1 ?_;intro _ Y;exact ah ⟨Y.midE 6,Qz⟩
            case ht=>
             intro Qd;refine GO 3 ?_;intro _ Y;refine cg Y (aC Y _ rfl rfl rfl) rfl rfl fun _ Y=>cg Y (aC Y _ rfl rfl rfl) rfl rfl fun _ Y=>cg Y (aC Y _ rfl rfl rfl) rfl rfl fun _ Y=>cg Y (aC Y _ rfl rfl rfl) rfl rfl fun _ Y=>GO 2 ?_;intro _ Y;refine cg Y (aC Y _ rfl rfl rfl) rfl rfl fun _ Y=>cg Y (aC Y _ rfl rfl rfl) rfl rfl fun _ Y=>cg Y (aC Y _ rfl rfl rfl) rfl rfl fun _ Y=>cg Y (aC Y _ rfl rfl rfl) rfl rfl fun _ Y=>cg Y (aC Y _ rfl rfl rfl) rfl rfl fun _ Y=>GO 2 ?_;intro _ Y;exact ah ⟨Y.midE 15,Z⟩
            case h=>
             rintro Vu Jn ⟨Qg,Zu⟩
             refine ah (aj ?_);refine ak (Qg.ev rfl) (fun Zf=>?_) (fun Zf=>?_)
             ·
              have a:bJ r=((k:Int),9):=kv hh j f (by
               rw[Vb] at Zf
               rw[D,show seqB (bS r.rs k) r.rs[k]=false by simpa using Zf];rfl) au
              refine GO 14 ?_;intro _ Y;refine cd Y rfl rfl rfl ?_;exact⟨by rw[a],Zu.below⟩
             ·
              have U:∀m (hm:m<r.rs.length),m<k+1→eC r.r.o r.r.s (bS r.rs m) r.rs[m]=0:=fun m hm Wb=>by
               rcases Nat.lt_or_ge m k with h | h
               · exact f m hm h
               · have e:m=k:=by omega
                 subst e;rw[Vb] at Zf;rw[D,show seqB (bS r.rs m) r.rs[m]=true by simpa using Zf];rfl
              have Vp:∀w,fZ 188 #[ae (r.rs[k].l-1),ae r.rs[k].b.size] w (ae (atR r (k+1))):=fun w=>by
               have q:=km (r.rs[k].l-1) r.rs[k].b.size ab w
               have e:atR r (k+1)=r.rs[k].l-1+kb r.rs[k].b.size:=by unfold atR;rw[ub j];rfl
               rw[e];exact q
              refine wp_skip (aj ?_);apply aK Qg (fA 10) _ aa
              case h=>
               refine GO 2 ?_;intro _ Y;refine qv Y (fun X M=>fp (Y.ev rfl) (Y.ev rfl) ⟨by omega,by omega⟩) fun _ Y=>?_;refine GO 3 ?_;intro _ Y;refine gp Y rfl (fun X M=>Vp _) fun _ Y=>?_;refine GO 1 ?_;intro _ Y;refine qv Y (fun X M=>aA (v':=ae (Fy r (k+1))) (by unfold Fy;rw[ub j]) (lx (Y.ev rfl) ((Zu.grow M).cell (i:=0) rfl rfl))) fun _ Y=>?_;refine GO 2 ?_;intro _ Y;refine aV fun _ Qh Jd=>?_;have Z:=Zu.grow Qh;refine GO 10 ?_;intro _ Y;exact⟨k+1,ab,⟨j,U⟩,Y.re bN,Z.sub (aL 2)⟩
              case hB=>kernel_rfl
              case hst=>rfl
       ·
        have Vi:k=r.rs.length:=by have:=of_decide_eq_false Qw;omega
        subst Vi;have f:∀m (hm:m<r.rs.length),eC r.r.o r.r.s (bS r.rs m) r.rs[m]=0:=fun m hm=>Jb.2 m hm hm;have J:=BQ hh f;have Vm:=uc r ab C f
        have Vn:r.rs=[]∨(1≤r.r.o∧r.r.o≤100000000):=by
         rcases Nat.eq_zero_or_pos r.rs.length with h0 | h0
         · exact .inl (List.eq_nil_of_length_eq_zero h0)
         · right
           have:=(recE_zero.1 (f 0 h0)).2.2.1;have K:bS r.rs 0=none:=rfl;rw[K] at this;simp only[fu,Bool.and_eq_true,beq_iff_eq,decide_eq_true_eq] at this;omega
        refine wp_exit ?_;refine dt ?_;refine dt ?_;refine oP ?_;refine aj (ai (ai (an ?_)));refine vf Y 7 7 fun _ Y=>?_;refine GO 5 ?_;intro _ Q;refine mv (F:=fI r=0) Q Zn [] [1] ?_ (fun _ _ Y Z n=>?_)
        ·
         refine ak (Q.ev rfl) (fun Zj=>?_) (fun Zj=>?_)
         ·
          have R:r.rs=[]:=List.eq_nil_of_length_eq_zero (by have:=eq_of_beq Zj;omega)
          have u:atR r r.rs.length=r.r.o-1:=by rw[R];rfl
          have z:fI r=bF (r.nx==r.r.o-1&&r.nx % 448==0) 9:=by unfold fI;rw[R];rfl
          rw[u] at Q;refine ai (an ?_);refine vf Q 8 8 fun _ Y=>?_;refine GO 4 ?_;intro _ Y;apply bI Y Zn 162 rfl 5 167
          case hf=>
           intro Qi;refine sy Y (fx 8 8 (Y.ev rfl)) fun _ Y=>?_;refine GO 1 ?_;intro _ Y;refine sy Y (kY (Y.ev rfl) (Y.ev rfl) ⟨by omega,by omega⟩) fun _ Y=>?_;refine GO 2 ?_;intro _ Y;exact ah ⟨Y.midE 4,Zn⟩
          case ht=>
           intro Qi;refine GO 5 ?_;intro _ Y;exact ah ⟨Y.midE 4,Zn⟩
          case h=>
           rintro Vz Jo ⟨Qj,Qk⟩
           refine ah (aj ?_);refine ak (Qj.ev rfl) (fun Zg=>?_) (fun Zg=>?_)
           ·
            have a:bJ r=(0,9):=by
             rw[J,rU (e:=9) _ au];rw[z]
             have:(r.nx==r.r.o-1&&r.nx % 448==0)=false:=by
              rw[Bool.and_eq_false_iff,beq_eq_false_iff_ne,beq_eq_false_iff_ne];rw[Bool.or_eq_true,bne_iff_ne,bne_iff_ne] at Zg;exact Zg
             rw[this];rfl
            refine GO 9 ?_;intro _ Y;refine cd Y rfl rfl rfl ?_;exact⟨by rw[a],Qk.below⟩
           ·
            have n:fI r=0:=by
             rw[z]
             have:(r.nx==r.r.o-1&&r.nx % 448==0)=true:=by
              rw[Bool.and_eq_true,beq_iff_eq,beq_iff_eq];rw[Bool.or_eq_false_iff,bne_eq_false_iff_eq,bne_eq_false_iff_eq] at Zg;exact Zg
             rw[this];rfl
            refine wp_skip (aj ?_);exact⟨Qj.re ⟨rfl,trivial⟩,Qk,n⟩
         ·
          have Jz:0<r.rs.length:=by
           have:¬(r.rs.length:Int)=0:=by intro h;rw[h] at Zj;exact absurd Zj au
           omega
          obtain⟨y,G⟩:=qz Jz (Nat.le_refl _)
          have Vo:r.rs.getLast? = some y:=by
           unfold bS at G;rw[if_neg ab] at G;rw[List.getLast?_eq_getElem?];exact G
          have Jv:=AX r ab C r.rs.length (Nat.le_refl _) (fun m hm _=>f m hm) y G;have Vh:=Jv.1.bd
          have u:atR r r.rs.length=dG y:=by unfold atR;rw[G]
          have Vj:Fy r r.rs.length=y.s:=by unfold Fy;rw[G]
          have z:fI r=bF ((r.nx==dG y||r.nx==cp (dG y))&&(y.s==r.r.s||r.nx % 448==0)) 9:=by unfold fI;rw[Vo]
          have Vl:=gB (p:=dG y);rw[u,Vj] at Q;refine ai ?_;apply aK Q (fA 17) _ aa
          case h=>
           refine qv Q (fun X M=>fx 8 8 (Q.ev rfl)) fun _ Y=>?_;refine GO 2 ?_;intro _ Y;refine gp Y rfl (fun X M=>lg _ ab _) fun _ Y=>?_;refine GO 2 ?_;intro _ Y;apply mV Y 173 rfl 11 184
           case ht=>
            intro Ql;refine qy Y (fun X M=>(fx 8 8 (Y.ev rfl))) fun _ Y=>?_;refine GO 4 ?_;intro _ Y;apply fF Y 178 rfl 6 184
            case hf=>
             intro Qm;refine GO 2 ?_;intro _ Y;refine qy Y (fun X M=>(fx 0 1 (Y.ev rfl))) fun _ Y=>?_;refine GO 3 ?_;intro _ Y;exact ax (Y.midE 5)
            case ht=>
             intro Qm;refine GO 6 ?_;intro _ Y;exact ax (Y.midE 5)
            case h=>
             intro _ Y;exact ax (Y.midE 5)
           case hf=>
            intro Ql;refine GO 5 ?_;intro _ Y;refine mn Y (aC Y _ rfl rfl rfl) rfl rfl fun _ Y=>mn Y (aC Y _ rfl rfl rfl) rfl rfl fun _ Y=>mn Y (aC Y _ rfl rfl rfl) rfl rfl fun _ Y=>mn Y (aC Y _ rfl rfl rfl) rfl rfl fun _ Y=>mn Y (aC Y _ rfl rfl rfl) rfl rfl fun _ Y=>GO 1 ?_;intro _ Y;exact ax ⟨_,Y.midE 10⟩
           case h=>
            intro Vs _ W Y;refine ax ?_;refine aV fun _ Qn Je=>?_;have Z:=Zn.grow Qn;refine sv Y (eO (Y.ev rfl) (Y.ev rfl) W (Y.ev rfl)) fun _ Y=>?_;refine ah (aj ?_);refine ak (Y.ev rfl) (fun Zc=>?_) (fun Zc=>?_)
            ·
             have a:bJ r=(0,9):=by
              rw[J,rU (e:=9) _ au];rw[z]
              have:((r.nx==dG y||r.nx==cp (dG y))&&(y.s==r.r.s||r.nx % 448==0))=false:=by
               simp only[Bool.and_eq_true,Bool.or_eq_true,bne_iff_ne,decide_eq_true_eq] at Zc;rw[Bool.and_eq_false_iff,Bool.or_eq_false_iff,Bool.or_eq_false_iff,beq_eq_false_iff_ne,beq_eq_false_iff_ne,beq_eq_false_iff_ne,beq_eq_false_iff_ne];by_cases O:r.nx=dG y
               · right
                 refine⟨by omega,fun h2=>Zc.1 ?_⟩;rw[O] at h2 ⊢;unfold cp;omega
               · exact .inl ⟨O,Zc.1⟩
              rw[this];rfl
             refine GO 9 ?_;intro _ Y;refine cd Y rfl rfl rfl ?_;exact⟨by rw[a],Z.below⟩
            ·
             have n:fI r=0:=by
              rw[z]
              have:((r.nx==dG y||r.nx==cp (dG y))&&(y.s==r.r.s||r.nx % 448==0))=true:=by
               simp only[Bool.and_eq_true,Bool.or_eq_true,beq_iff_eq];rw[Bool.and_eq_false_iff,Bool.or_eq_false_iff,bne_eq_false_iff_eq,bne_eq_false_iff_eq,decide_eq_false_iff_not] at Zc;rcases Zc with h | ⟨O,h2⟩
               · exact⟨.inr h,.inr (by rw[h];exact Vl.2.2)⟩
               · exact⟨.inl O,.inl ab⟩
              rw[this];rfl
             refine wp_skip (aj ?_);exact⟨Y.re ⟨rfl,trivial⟩,Z,n⟩
          case hB=>kernel_rfl
          case hst=>rfl
        ·
         refine GO 5 ?_;intro _ Y;refine vf Y 1 2 fun _ Y=>?_;refine GO 3 ?_;intro _ Y;apply bo Y Z 190 rfl 7 197
         case ht=>
          intro Zh;refine aT (v:=a7 r A c) Y (ao Y _ rfl rfl rfl Zh) (ag aa aa (Y.ev rfl) (Z.cellsAll (i:=0) rfl)) rfl rfl fun _ Y=>GO 1 ?_;intro _ Y;refine sy Y (fx 1 2 (Y.ev rfl)) fun _ Y=>?_;refine GO 1 ?_;intro _ Y;refine dk Y (ao Y _ rfl rfl rfl Zh) (az bc (Y.evs rfl) rfl) rfl rfl Z (o3 r A c r.r.c _ (Z.rd0 hr) C) fun _ _ Y Z=>GO 2 ?_;intro _ Y;exact ah ⟨Y.midE 6,Z⟩
         case hf=>
          intro Zh;refine GO 7 ?_;intro _ Y;exact ah ⟨Y.midE 6,Z⟩
         case h=>
          rintro Vv Jp ⟨Zv,Zk⟩
          refine ah (aj ?_);refine ak (Zv.ev rfl) (fun Zd=>?_) (fun Zd=>?_)
          ·
           have a:bJ r=(0,6):=by
            rw[J];unfold jH;rw[aR,if_pos n,aR]
            have:(r.r.c==0||ec r.rs r.r.c)=false:=by
             rw[Bool.and_eq_true,bne_iff_ne] at Zd;rw[Bool.or_eq_false_iff,beq_eq_false_iff_ne];exact⟨Zd.1,ar Zd.2⟩
            rw[this];rfl
           refine GO 8 ?_;intro _ Y;refine cd Y rfl rfl rfl ?_;exact⟨by rw[a],Zk.below⟩
          ·
           have Vc:(r.r.c==0||ec r.rs r.r.c)=true:=by
            by_cases h:r.r.c=0
            · rw[h];rfl
            · have I:(r.r.c != 0)=true:=by rw[bne_iff_ne];exact h
              rw[I,Bool.true_and] at Zd;rw[show ec r.rs r.r.c=true by simpa using Zd];simp
           refine wp_skip (aj (ai (ai (an ?_))));refine sv (v:=a7 r A c) Zv (ag aa aa (Zv.ev rfl) (Zk.cellsAll (i:=0) rfl)) fun _ Y=>?_;refine cN Y rfl Zk (pk r A c _ (Zk.rd0 hr) Vm Vn C) fun _ _ Y Z=>?_;refine GO 12 ?_;intro _ Y;refine sv Y (fp (Y.ev rfl) (Y.ev rfl) ⟨by have:=inB_true.1 ((aD au).1 B);omega,by have:=inB_true.1 ((aD au).1 B);omega⟩) fun _ Y=>?_;refine GO 3 ?_;intro _ Y;refine ak (Y.ev rfl) (fun Zw=>?_) (fun Zw=>?_)
           ·
            have a:bJ r=(0,16):=by
             rw[J];unfold jH;rw[aR,if_pos n,aR,Vc,if_pos (fg 6),aR,decide_eq_false (by have:=of_decide_eq_true Zw;omega)];rfl
            refine GO 8 ?_;intro _ Y;refine cd Y rfl rfl rfl ?_;exact⟨by rw[a],Z.below⟩
           ·
            have a:bJ r=(0,0):=by
             rw[J];unfold jH;rw[aR,if_pos n,aR,Vc,if_pos (fg 6),aR,decide_eq_true (by have:=of_decide_eq_false Zw;omega)];rfl
            refine GO 9 ?_;intro _ Y;refine cd Y rfl rfl rfl ?_;exact⟨by rw[a],Z.below⟩
theorem s6 (r:RngP) (A:Option Addr) (c:Nat) (w:World) (hr:Rd w w.heap.size A (aJ r.rs)) (a:r.rs.length≤1000) (hx:∀x∈r.rs,I6 x.l) :
 bz 109 #[a7 r A c] w (ae (bJ r).2):=by
 refine aq (N:=11) Tryz.func109 rfl rfl rfl (fun _ Y=>?_);have Z:=St.init w;refine ai (an ?_);refine nb Y rfl rfl Z fun b1 _ _ b Y Z=>GO 5 ?_;intro _ Y;refine sv (v:=a7 r A c) Y (ag aa aa (Y.ev rfl) (Z.cellsAll (i:=0) rfl)) fun _ Y=>?_;refine cN Y rfl Z (pb r A c _ (Z.rd0 hr) a hx) fun _ _ Y Z=>?_;refine GO 14 ?_;intro _ Y;refine aI Y rfl rfl ?_;exact⟨rfl,Z.below⟩
open Go.RowKit Go.Sort
open Go.RowKit Go.Sort
def GL:RngP:=⟨6,⟨1,0,1⟩,rst0,[],0⟩
def Fs:RngP:=dL GL (bs [97,98,99])
def Fw:RngP:=dL Fs (bs (cu 500))
def Fk:RngP:=rm Fw
def CH:RngP:=dL Fk (bs [120])
def Fz:RngP:=gh CH 0 897
def GH:RngP:=dL Fz (bs (cu 900))
def GR:RngP:=rm CH
attribute [local irreducible] Fs Fw Fk CH
open Go.RowKit Go.Sort
attribute [local irreducible] Fz GH GR
open Go.ChangeShapes Go.WideShapes Go.ChangeAt Go.RowKit
def Ha (x:RstP):List Value:=[ae x.s,ae x.c,ae x.o]
def Gl (x:RstP):Prop:=(-9223372036854775808≤x.s∧x.s<9223372036854775808)∧(-9223372036854775808≤x.c∧x.c<9223372036854775808)∧(-9223372036854775808≤x.o∧x.o<9223372036854775808)
theorem wf_i64 {n:Int} (h:(Lit.int .i64 n).wf=true):-9223372036854775808≤n∧n<9223372036854775808:=by
 have a:(decide (IntKind.i64.min≤n)&&decide (n≤IntKind.i64.max))=true:=h
 have b:IntKind.i64.min = -9223372036854775808:=by decide
 have e2:IntKind.i64.max=9223372036854775807:=by decide
 rw[b,e2,Bool.and_eq_true,decide_eq_true_eq,decide_eq_true_eq] at a;omega
theorem uG {H:Type} {enc:TypeId × Value→H} {W:World} {a:Nat} {cs:List Value} {x:DataW H × List MemPlace} (q:cs.length=3)
 (h:DataW.trod enc Tryz.prog W 0 (fun _=>true) true a 70 cs=some x):∃y,cs=Ha y∧Gl y:=by
 obtain⟨xs,k,s,o,_,b,hf⟩:=DataW.trod_struct vi h
 match xs,b,cs,q with
 | [y0,y1,y2],_,[c0,c1,c2],_=>
  have l:Tryz.prog.cellsOf 3=1:=by kernel_rfl
  have e:=hf 0 _ rfl;have f:=hf 1 _ rfl;have c:=hf 2 _ rfl;simp[l] at e f c;obtain⟨j,e0,_,r⟩:=DataW.trod_int ew e;obtain⟨m,i,_,b1⟩:=DataW.trod_int ew f;obtain⟨n,e2,_,p⟩:=DataW.trod_int ew c;simp only[List.cons.injEq,and_true] at e0 i e2;exact⟨⟨j,m,n⟩,by rw[e0,i,e2];rfl,wf_i64 r,wf_i64 b1,wf_i64 p⟩
structure RngA where
 r:RngP
 A:Option Addr
 c:Nat
def Hy (x:RngA):List Value:=[ae x.r.pg,ae x.r.r.s,ae x.r.r.c,ae x.r.r.o,ae x.r.e.s,ae x.r.e.c,ae x.r.e.o,.slice x.A x.r.rs.length x.c,ae x.r.nx]
structure RngI (r:RngP):Prop where
 pg:-9223372036854775808≤r.pg∧r.pg<9223372036854775808
 rr:Gl r.r
 ee:Gl r.e
 nx:-9223372036854775808≤r.nx∧r.nx<9223372036854775808
 len:r.rs.length≤maxLen
 rs:∀x∈r.rs,(-9223372036854775808≤x.l∧x.l<9223372036854775808)∧(-9223372036854775808≤x.s∧x.s<9223372036854775808)∧x.b.size≤maxLen
theorem zY (l:List RecP):l.flatMap (fun x=>[Value.int .i64 x.l,ae x.s,.string x.b])=aJ l:=by
 unfold aJ;first | rfl | (rw[List.flatMap_def];rfl)
theorem AN {H:Type} {enc:TypeId × Value→H} {W:World} {a:Nat} {cs:List Value} {x:DataW H × List MemPlace}
 (h:DataW.trod enc Tryz.prog W 0 (fun _=>true) true a 71 cs=some x):∃(A:Option Addr) (c:Nat) (l:List RecP),cs=[.slice A l.length c]∧l.length≤maxLen∧Rd W W.heap.size A (aJ l)∧∀x∈l,(-9223372036854775808≤x.l∧x.l<9223372036854775808)∧(-9223372036854775808≤x.s∧x.s<9223372036854775808)∧x.b.size≤maxLen:=by
 obtain⟨A,c,l,q,o,h3,y⟩:=mP (fun x:RecP=>[Value.int .i64 x.l,.int .i64 x.s,.string x.b]) 3 (fun _=>rfl) (fun x=>(-9223372036854775808≤x.l∧x.l<9223372036854775808)∧(-9223372036854775808≤x.s∧x.s<9223372036854775808)∧x.b.size≤maxLen) cv aa (fun a cs x z h=>by
  obtain⟨xs,k,C,w,_,e,hf⟩:=DataW.trod_struct Tryz.underlying177 h
  match xs,e,cs,z with
  | [y0,y1,y2],_,[c0,c1,c2],_=>
   have p:Tryz.prog.cellsOf 3=1:=by kernel_rfl
   have u:Tryz.prog.cellsOf 9=1:=by kernel_rfl
   have i:=hf 0 _ rfl;have j:=hf 1 _ rfl;have f:=hf 2 _ rfl;simp[p,u] at i j f;obtain⟨n,e0,_,B⟩:=DataW.trod_int ew i;obtain⟨t,m,_,b1⟩:=DataW.trod_int ew j;obtain⟨v,e2,_,r⟩:=DataW.trod_string dh f;simp only[List.cons.injEq,and_true] at e0 m e2
   exact⟨⟨n,t,v⟩,by rw[e0,m,e2],wf_i64 B,wf_i64 b1,r⟩) h
 rw[zY] at h3;exact⟨A,c,l,q,o,h3,y⟩
theorem zC {H:Type} {enc:TypeId × Value→H} {W:World} {r:Reach} {a:Nat} {v:Value} {d:DataW H} {p:List MemPlace}
 (S:Value.okWide Tryz.prog W r a 73 v) (h:DataW.Trod enc Tryz.prog W 0 (fun _=>true) true 73 v d p) :
 ∃(r:RngP) (A:Option Addr) (c:Nat),v=a7 r A c∧RngI r∧Rd W W.heap.size A (aJ r.rs):=by
 obtain⟨y,N,M,h3⟩:=tT (α:=RngA) Hy 9 (fun x=>RngI x.r∧Rd W W.heap.size x.A (aJ x.r.rs)) Tryz.underlying73 aa (fun w cs x J h=>by
  obtain⟨xs,k,Z,R,_,i,hf⟩:=DataW.trod_struct Tryz.underlying73 h
  match xs,i,cs,J with
  | [y0,y1,y2,y3,y4],_,[c0,c1,c2,c3,c4,c5,c6,c7,c8],_=>
   have C:Tryz.prog.cellsOf 3=1:=by kernel_rfl
   have B:Tryz.prog.cellsOf 70=3:=by kernel_rfl
   have T:Tryz.prog.cellsOf 71=1:=by kernel_rfl
   have u:=hf 0 _ rfl;have o:=hf 1 _ rfl;have t:=hf 2 _ rfl;have n:=hf 3 _ rfl;have z:=hf 4 _ rfl;simp[C,B,T] at u o t n z;obtain⟨L,e0,_,Y⟩:=DataW.trod_int ew u;obtain⟨D,q,b1⟩:=uG rfl o;obtain⟨Q,e2,F⟩:=uG rfl t;obtain⟨I,O,U,e3,G,E,K⟩:=AN n;obtain⟨V,s,_,b4⟩:=DataW.trod_int ew z;simp only[Ha,List.cons.injEq,and_true] at e0 q e2 e3 s;obtain⟨l,e,f⟩:=q;obtain⟨j,m,b⟩:=e2
   exact⟨⟨⟨L,D,Q,U,V⟩,I,O⟩,by rw[e0,l,e,f,j,m,b,e3,s];rfl,⟨wf_i64 Y,b1,F,wf_i64 b4,G,K⟩,E⟩) S h
 exact⟨y.r,y.A,y.c,N,M,h3⟩
variable {ds:List Deferred}
open Go.RowKit Go.Sort
variable {ds:List Deferred}
theorem EX {P:Program} {ρ:Operand→Value} {X:World} {d:Option Tmp} {ty:TypeId} {ps:String} {af:Array Edge} {g:Option (Nat × Bool)} {x y:Operand} {t a:TypeId} {m n:Int} (hx:ρ x=ae m) (b:ρ y=ae n):(execOp ρ ⟨d,.binOp .add t x y a,ty,ps,af,g⟩).run P X=.ok (.value (ae (IntKind.i64.wrap (m+n)))) X:=by
 simp[execOp,hx,b,eqGuard,binOp,Op.intArith]
def xL (r:RngP):Nat→Int
 | 0=>0
 | k+1=>IntKind.i64.wrap (xL r k+(match r.rs[k]? with | some x=>(x.b.size:Int) | none=>0))
theorem zX {r:RngP} {k:Nat} (h:k<r.rs.length):xL r (k+1)=IntKind.i64.wrap (xL r k+(r.rs[k].b.size:Int)):=by
 rw[xL,List.getElem?_eq_getElem h]
def Ck (r:RngP):Bool:=(decide ((r.rs.length:Int)>20)&&decide ((r.rs.length:Int)≤100))||decide ((r.rs.length:Int)>102)
def zq (r:RngP):Bool:=!Ck r&&decide (xL r r.rs.length≤12000)
theorem DW {r:RngP} (h:zq r=true):r.rs.length≤20∨(101≤r.rs.length∧r.rs.length≤102):=by
 unfold zq Ck at h;simp only[Bool.and_eq_true,Bool.not_eq_true',Bool.or_eq_false_iff,Bool.and_eq_false_iff,decide_eq_false_iff_not] at h;omega
theorem FE {r:RngP} (h:zq r=true):r.rs.length≤1000:=by have:=DW h;omega
theorem Dz (r:RngP) (A:Option Addr) (c:Nat) (w:World) (hr:Rd w w.heap.size A (aJ r.rs)) :
 bz 41 #[a7 r A c] w (.bool (zq r)):=by
 refine aq (N:=39) Tryz.func41 rfl rfl rfl (fun _ Y=>?_);have Z:=St.init w;refine ai (an ?_);refine nb Y rfl rfl Z fun b1 _ _ x Y Z=>GO 6 ?_;intro _ Y;refine vf Y 7 7 fun _ Y=>?_;refine GO 4 ?_;intro _ Y;apply bo Y Z 9 rfl 5 14
 case ht=>
  intro v;refine sy Y (fx 7 7 (Y.ev rfl)) fun _ Y=>?_;refine GO 4 ?_;intro _ Y;exact ah ⟨Y.midE 4,Z⟩
 case hf=>
  intro v;refine GO 5 ?_;intro _ Y;exact ah ⟨Y.midE 4,Z⟩
 case h=>
  rintro s y ⟨B,l⟩
  refine GO 1 ?_;intro _ Y;apply bI Y l 15 rfl 5 20
  case hf=>
   intro t;refine sy Y (fx 7 7 (Y.ev rfl)) fun _ Y=>?_;refine GO 4 ?_;intro _ Y;exact ah ⟨Y.midE 4,l⟩
  case ht=>
   intro t;refine GO 5 ?_;intro _ Y;exact ah ⟨Y.midE 4,l⟩
  case h=>
   rintro u z ⟨q,m⟩
   refine ah (aj ?_);refine ak (q.ev rfl) (fun j=>?_) (fun j=>?_)
   ·
    have e:Ck r=true:=j;refine GO 7 ?_;intro _ Y;refine aI Y rfl rfl ?_;refine⟨?_,m.below⟩;unfold zq;rw[e];rfl
   ·
    have e:Ck r=false:=j
    have p:r.rs.length≤102:=by
     unfold Ck at e;simp only[Bool.or_eq_false_iff,decide_eq_false_iff_not] at e;omega
    refine GO 14 ?_;intro _ Y;refine aY Y m [2,1] (fun (k:Nat)=>[(4,ae (k:Int)),(3,ae (xL r k))]) (fun (k:Nat)=>k≤r.rs.length) (fun (k:Nat) L=>L) (fun (k:Nat)=>r.rs.length-k) (0) (Nat.zero_le _) bN (m) ?_;intro k _ _ C Y Z;refine GO 4 ?_;intro _ Y;refine vf Y 7 7 fun _ Y=>?_;refine GO 5 ?_;intro _ Y;refine ak (Y.ev rfl) (fun f=>?_) (fun f=>?_)
    ·
     have a:k<r.rs.length:=by have:=of_decide_eq_true f;omega
     obtain⟨b,o,rfl,_⟩:=hr.opened (by rw[bw];omega);refine GO 6 ?_;intro _ Y;refine vf Y 7 7 fun _ Y=>?_;refine GO 2 ?_;intro _ Y;refine sv Y (av (i:=k) (sz:=3) cv aa (Y.ev rfl) (Y.ev rfl) ab ab rfl) fun _ Y=>?_;refine sv Y (fy 2 (Y.ev rfl)) fun _ Y=>?_;refine sv Y (lx (Y.ev rfl) ((recAt (Z.rd0 hr) a) 2 _ rfl)) fun _ Y=>?_;refine GO 1 ?_;intro _ Y;refine sv Y (aA (v':=ae (xL r (k+1))) (by rw[zX a]) (EX (Y.ev rfl) (Y.ev rfl))) fun _ Y=>?_;refine GO 10 ?_;intro _ Y;exact⟨k+1,ab,a,Y.re bN,Z⟩
    ·
     have n:k=r.rs.length:=by have:=of_decide_eq_false f;omega
     refine GO 13 ?_;intro _ Y;refine aI Y rfl rfl ?_;refine⟨?_,Z.below⟩;unfold zq;rw[e,n];rfl
end Go.Proofs.YtcfdpfmchchkaaaGreatDoor
