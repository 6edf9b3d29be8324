/-
  Chapter 22: what a history means; whether it is strict. No program in sight.
  Chapter 21: the bytes that an operation touches; Apart.
  Chapter 21: Apart.
  Chapter 22: whether a history is strict.
  Chapter 22: the meaning of a history.
-/
import Derived.Test.YtcfdpfmchchkaaaGreatDoorRcG
namespace Go.Proofs.YtcfdpfmchchkaaaGreatDoor
set_option linter.unusedVariables false
set_option linter.unusedSimpArgs false
open Go.RowKit
def jt (y:Lge) (t:Int):Bool:=y.t==t&&(y.k==2||y.k==4)
def iK (r:List Rcd) (t:Int):Bool:=r.any fun y=>jt y.e t
def Ag (q:Pgp) (s:ByteArray) (n:Int):ByteArray:=if q.f then s else rP s n
def ff:List Pgp→Int→List Rcd→List Pgp × Int × Int
 | p,n,[]=>(p,n,0)
 | p,n,x::r=>if (cd x.e&&iK r x.e.t)=true then (match gT p x.e.g with
  | none=>([],0,0)
  | some q=>if (bQ q.b x.e.o).2≠0 then ([],0,(bQ q.b x.e.o).2) else ff (fG p x.e.g (Ag q (bQ q.b x.e.o).1 x.l)) (n+1) r) else ff p n r
def kv (x:Rcd):Bool→List Rcd→Bool
 | _,[]=>true
 | e,y::r=>if (cd x.e&&cd y.e&&x.e.g==y.e.g)=true then
  (if x.e.f≠y.e.f then false else if (!dA x.e.o y.e.o&&!(x.e.t==y.e.t)&&!(e||jt y.e x.e.t))=true then false else kv x (e||jt y.e x.e.t) r)
  else kv x (e||jt y.e x.e.t) r
def j8:List Rcd→Bool
 | []=>true
 | x::r=>kv x false r&&j8 r
open Go.RowKit Go.Sort
set_option maxRecDepth 100000 in
set_option maxHeartbeats 1000000 in
theorem A0 (a e c:Int) (o n:ByteArray) (w:World) (ho:o.size≤3100) (hn:n.size≤3100) :
 Calls Tryz.prog 145 #[.agg #[.int .i64 0,.int .i64 a,.int .i64 e,.int .i64 c,.string o,.string n]] w fun r w'=>r=.returned (.tuple #[.int .i64 0,.int .i64 0])∧Below w.heap.size w w':=by
 go_enter Tryz.func145,Tryz.ntmps145
 go_wp2
 go_ret2
 exact⟨rfl,by(repeat (first | assumption | exact Below.refl _ _ | refine au ?_ _ | refine ao ?_ _ | refine ar ?_ (by assumption) | refine Below.trans ?_ (by assumption)))⟩
set_option maxRecDepth 100000 in
set_option maxHeartbeats 1000000 in
theorem Bp (a e c:Int) (o n:ByteArray) (w:World) (ho:o.size≤3100) (hn:n.size≤3100) :
 Calls Tryz.prog 145 #[.agg #[.int .i64 6,.int .i64 a,.int .i64 e,.int .i64 c,.string o,.string n]] w fun r w'=>r=.returned (.tuple #[.int .i64 0,.int .i64 512])∧Below w.heap.size w w':=by
 go_enter Tryz.func145,Tryz.ntmps145
 go_wp2
 go_ret2
 exact⟨rfl,by(repeat (first | assumption | exact Below.refl _ _ | refine au ?_ _ | refine ao ?_ _ | refine ar ?_ (by assumption) | refine Below.trans ?_ (by assumption)))⟩
set_option maxRecDepth 100000 in
set_option maxHeartbeats 1000000 in
theorem Bq (a e c:Int) (o n:ByteArray) (w:World) (ho:o.size≤3100) (hn:n.size≤3100) (h0:0≤a) (h1:a≤4096) :
 Calls Tryz.prog 145 #[.agg #[.int .i64 1,.int .i64 a,.int .i64 e,.int .i64 c,.string o,.string n]] w fun r w'=>r=.returned (.tuple #[.int .i64 a,.int .i64 (a+o.size)])∧Below w.heap.size w w':=by
 go_enter Tryz.func145,Tryz.ntmps145
 go_wp2
 go_quiet (fail)
 go_wp2
 go_ret2
 exact⟨rfl,by(repeat (first | assumption | exact Below.refl _ _ | refine au ?_ _ | refine ao ?_ _ | refine ar ?_ (by assumption) | refine Below.trans ?_ (by assumption)))⟩
set_option maxRecDepth 100000 in
set_option maxHeartbeats 1000000 in
theorem Bm (a e c:Int) (o n:ByteArray) (w:World) (ho:o.size≤3100) (hn:n.size≤3100) (h0:0≤e) (h1:e≤4096) :
 Calls Tryz.prog 145 #[.agg #[.int .i64 2,.int .i64 a,.int .i64 e,.int .i64 c,.string o,.string n]] w fun r w'=>r=.returned (.tuple #[.int .i64 a,.int .i64 (e+n.size)])∧Below w.heap.size w w':=by
 go_enter Tryz.func145,Tryz.ntmps145
 go_wp2
 go_quiet (fail)
 go_wp2
 go_ret2
 exact⟨rfl,by(repeat (first | assumption | exact Below.refl _ _ | refine au ?_ _ | refine ao ?_ _ | refine ar ?_ (by assumption) | refine Below.trans ?_ (by assumption)))⟩
set_option maxRecDepth 100000 in
set_option maxHeartbeats 1000000 in
theorem AW (a e c:Int) (o n:ByteArray) (w:World) (ho:o.size≤3100) (hn:n.size≤3100) :
 Calls Tryz.prog 145 #[.agg #[.int .i64 3,.int .i64 a,.int .i64 e,.int .i64 c,.string o,.string n]] w fun r w'=>r=.returned (.tuple #[.int .i64 a,.int .i64 e])∧Below w.heap.size w w':=by
 go_enter Tryz.func145,Tryz.ntmps145
 go_wp2
 go_quiet (fail)
 go_wp2
 go_ret2
 exact⟨rfl,by(repeat (first | assumption | exact Below.refl _ _ | refine au ?_ _ | refine ao ?_ _ | refine ar ?_ (by assumption) | refine Below.trans ?_ (by assumption)))⟩
set_option maxRecDepth 100000 in
set_option maxHeartbeats 1000000 in
theorem wB (a e c:Int) (o n:ByteArray) (w:World) (ho:o.size≤3100) (hn:n.size≤3100) :
 Calls Tryz.prog 125 #[.agg #[.int .i64 0,.int .i64 a,.int .i64 e,.int .i64 c,.string o,.string n]] w fun r w'=>r=.returned (.tuple #[.int .i64 0,.int .i64 0])∧Below w.heap.size w w':=by
 go_enter Tryz.func125,Tryz.ntmps125
 go_wp2
 go_ret2
 exact⟨rfl,by(repeat (first | assumption | exact Below.refl _ _ | refine au ?_ _ | refine ao ?_ _ | refine ar ?_ (by assumption) | refine Below.trans ?_ (by assumption)))⟩
set_option maxRecDepth 100000 in
set_option maxHeartbeats 1000000 in
theorem xr (a e c:Int) (o n:ByteArray) (w:World) (ho:o.size≤3100) (hn:n.size≤3100) :
 Calls Tryz.prog 125 #[.agg #[.int .i64 6,.int .i64 a,.int .i64 e,.int .i64 c,.string o,.string n]] w fun r w'=>r=.returned (.tuple #[.int .i64 0,.int .i64 512])∧Below w.heap.size w w':=by
 go_enter Tryz.func125,Tryz.ntmps125
 go_wp2
 go_ret2
 exact⟨rfl,by(repeat (first | assumption | exact Below.refl _ _ | refine au ?_ _ | refine ao ?_ _ | refine ar ?_ (by assumption) | refine Below.trans ?_ (by assumption)))⟩
set_option maxRecDepth 100000 in
set_option maxHeartbeats 1000000 in
theorem vM (a e c:Int) (o n:ByteArray) (w:World) (ho:o.size≤3100) (hn:n.size≤3100) (h0:0≤a) (h1:a≤4096) :
 Calls Tryz.prog 125 #[.agg #[.int .i64 1,.int .i64 a,.int .i64 e,.int .i64 c,.string o,.string n]] w fun r w'=>r=.returned (.tuple #[.int .i64 a,.int .i64 (a+o.size)])∧Below w.heap.size w w':=by
 go_enter Tryz.func125,Tryz.ntmps125
 go_wp2
 go_quiet (fail)
 go_wp2
 go_ret2
 exact⟨rfl,by(repeat (first | assumption | exact Below.refl _ _ | refine au ?_ _ | refine ao ?_ _ | refine ar ?_ (by assumption) | refine Below.trans ?_ (by assumption)))⟩
set_option maxRecDepth 100000 in
set_option maxHeartbeats 1000000 in
theorem wY (a e c:Int) (o n:ByteArray) (w:World) (ho:o.size≤3100) (hn:n.size≤3100) (h0:0≤e) (h1:e≤4096) :
 Calls Tryz.prog 125 #[.agg #[.int .i64 2,.int .i64 a,.int .i64 e,.int .i64 c,.string o,.string n]] w fun r w'=>r=.returned (.tuple #[.int .i64 a,.int .i64 (e+n.size)])∧Below w.heap.size w w':=by
 go_enter Tryz.func125,Tryz.ntmps125
 go_wp2
 go_quiet (fail)
 go_wp2
 go_ret2
 exact⟨rfl,by(repeat (first | assumption | exact Below.refl _ _ | refine au ?_ _ | refine ao ?_ _ | refine ar ?_ (by assumption) | refine Below.trans ?_ (by assumption)))⟩
set_option maxRecDepth 100000 in
set_option maxHeartbeats 1000000 in
theorem vX (a e c:Int) (o n:ByteArray) (w:World) (ho:o.size≤3100) (hn:n.size≤3100) :
 Calls Tryz.prog 125 #[.agg #[.int .i64 3,.int .i64 a,.int .i64 e,.int .i64 c,.string o,.string n]] w fun r w'=>r=.returned (.tuple #[.int .i64 a,.int .i64 e])∧Below w.heap.size w w':=by
 go_enter Tryz.func125,Tryz.ntmps125
 go_wp2
 go_quiet (fail)
 go_wp2
 go_ret2
 exact⟨rfl,by(repeat (first | assumption | exact Below.refl _ _ | refine au ?_ _ | refine ao ?_ _ | refine ar ?_ (by assumption) | refine Below.trans ?_ (by assumption)))⟩
set_option maxRecDepth 100000 in
set_option maxHeartbeats 1000000 in
theorem AY (a e c:Int) (o n:ByteArray) (w:World) (ho:o.size≤3100) (hn:n.size≤3100) (h0:0≤a) (h1:a≤4096) (h2:1≤c) (h3:c≤4096) :
 Calls Tryz.prog 145 #[.agg #[.int .i64 4,.int .i64 a,.int .i64 e,.int .i64 c,.string o,.string n]] w fun r w'=>r=.returned (.tuple #[.int .i64 (a / 8),.int .i64 ((a+c-1) / 8+1)])∧Below w.heap.size w w':=by
 have q1:Int.tdiv a 8=a / 8:=Int.tdiv_eq_ediv_of_nonneg h0;have q2:Int.tdiv (a+c-1) 8=(a+c-1) / 8:=Int.tdiv_eq_ediv_of_nonneg (by omega)
 go_enter Tryz.func145,Tryz.ntmps145
 go_wp2
 go_quiet (fail)
 go_wp2
 go_ret2
 exact⟨by rfl,by(repeat (first | assumption | exact Below.refl _ _ | refine au ?_ _ | refine ao ?_ _ | refine ar ?_ (by assumption) | refine Below.trans ?_ (by assumption)))⟩
set_option maxRecDepth 100000 in
set_option maxHeartbeats 1000000 in
theorem wW (a e c:Int) (o n:ByteArray) (w:World) (ho:o.size≤3100) (hn:n.size≤3100) (h0:0≤a) (h1:a≤4096) (h2:1≤c) (h3:c≤4096) :
 Calls Tryz.prog 125 #[.agg #[.int .i64 4,.int .i64 a,.int .i64 e,.int .i64 c,.string o,.string n]] w fun r w'=>r=.returned (.tuple #[.int .i64 (a / 8),.int .i64 ((a+c-1) / 8+1)])∧Below w.heap.size w w':=by
 have q1:Int.tdiv a 8=a / 8:=Int.tdiv_eq_ediv_of_nonneg h0;have q2:Int.tdiv (a+c-1) 8=(a+c-1) / 8:=Int.tdiv_eq_ediv_of_nonneg (by omega)
 go_enter Tryz.func125,Tryz.ntmps125
 go_wp2
 go_quiet (fail)
 go_wp2
 go_ret2
 exact⟨by rfl,by(repeat (first | assumption | exact Below.refl _ _ | refine au ?_ _ | refine ao ?_ _ | refine ar ?_ (by assumption) | refine Below.trans ?_ (by assumption)))⟩
set_option maxRecDepth 100000 in
set_option maxHeartbeats 1000000 in
theorem Bb (a e c:Int) (o n:ByteArray) (w:World) (ho:o.size≤3100) (hn:n.size≤3100) (h0:0≤a) (h1:a≤4096) (h2:1≤c) (h3:c≤4096) :
 Calls Tryz.prog 145 #[.agg #[.int .i64 5,.int .i64 a,.int .i64 e,.int .i64 c,.string o,.string n]] w fun r w'=>r=.returned (.tuple #[.int .i64 (a / 8),.int .i64 ((a+c-1) / 8+1)])∧Below w.heap.size w w':=by
 have q1:Int.tdiv a 8=a / 8:=Int.tdiv_eq_ediv_of_nonneg h0;have q2:Int.tdiv (a+c-1) 8=(a+c-1) / 8:=Int.tdiv_eq_ediv_of_nonneg (by omega)
 go_enter Tryz.func145,Tryz.ntmps145
 go_wp2
 go_quiet (fail)
 go_wp2
 go_ret2
 exact⟨by rfl,by(repeat (first | assumption | exact Below.refl _ _ | refine au ?_ _ | refine ao ?_ _ | refine ar ?_ (by assumption) | refine Below.trans ?_ (by assumption)))⟩
set_option maxRecDepth 100000 in
set_option maxHeartbeats 1000000 in
theorem wv (a e c:Int) (o n:ByteArray) (w:World) (ho:o.size≤3100) (hn:n.size≤3100) (h0:0≤a) (h1:a≤4096) (h2:1≤c) (h3:c≤4096) :
 Calls Tryz.prog 125 #[.agg #[.int .i64 5,.int .i64 a,.int .i64 e,.int .i64 c,.string o,.string n]] w fun r w'=>r=.returned (.tuple #[.int .i64 (a / 8),.int .i64 ((a+c-1) / 8+1)])∧Below w.heap.size w w':=by
 have q1:Int.tdiv a 8=a / 8:=Int.tdiv_eq_ediv_of_nonneg h0;have q2:Int.tdiv (a+c-1) 8=(a+c-1) / 8:=Int.tdiv_eq_ediv_of_nonneg (by omega)
 go_enter Tryz.func125,Tryz.ntmps125
 go_wp2
 go_quiet (fail)
 go_wp2
 go_ret2
 exact⟨by rfl,by(repeat (first | assumption | exact Below.refl _ _ | refine au ?_ _ | refine ao ?_ _ | refine ar ?_ (by assumption) | refine Below.trans ?_ (by assumption)))⟩
theorem tq (x:Op) (w:World) (h:fm x) :
 Calls Tryz.prog 145 #[eQ x] w fun r w'=>r=.returned (.tuple #[.int .i64 (cN x).1,.int .i64 (cN x).2])∧Below w.heap.size w w':=by
 obtain⟨k,a,e,c,o,n⟩:=x;unfold fm at h
 dsimp only at h
 rcases h with ⟨rfl,rfl,rfl,rfl,ho,hn⟩ | ⟨rfl,rfl,rfl,hs,h1,h2,h3,h4⟩ | ⟨rfl,rfl,ho,h1,h2,h3,h4,h5⟩ | ⟨rfl,rfl,hn,h1,h2,h3,h4,h5⟩ | ⟨hk,rfl,ho,hn,h1,h2,h3,h4⟩ | ⟨rfl,rfl,rfl,rfl,ho,hn⟩
 all_goals (try dsimp only at *)
 · exact A0 0 0 0 o n w (by omega) (by omega)
 · exact Bq a 0 0 o n w (by omega) (by omega) h3 (by omega)
 · exact Bm a e 0 o n w (by omega) (by omega) (by omega) (by omega)
 · exact AW a e 0 o n w (by omega) (by omega)
 · rcases hk with rfl | rfl
   · exact AY a 0 c o n w (by omega) (by omega) h1 (by omega) h3 (by omega)
   · exact Bb a 0 c o n w (by omega) (by omega) h1 (by omega) h3 (by omega)
 · exact Bp 0 0 0 o n w (by omega) (by omega)
theorem lW (x:Op) (w:World) (h:fm x) :
 Calls Tryz.prog 125 #[eQ x] w fun r w'=>r=.returned (.tuple #[.int .i64 (cN x).1,.int .i64 (cN x).2])∧Below w.heap.size w w':=by
 obtain⟨k,a,e,c,o,n⟩:=x;unfold fm at h
 dsimp only at h
 rcases h with ⟨rfl,rfl,rfl,rfl,ho,hn⟩ | ⟨rfl,rfl,rfl,hs,h1,h2,h3,h4⟩ | ⟨rfl,rfl,ho,h1,h2,h3,h4,h5⟩ | ⟨rfl,rfl,hn,h1,h2,h3,h4,h5⟩ | ⟨hk,rfl,ho,hn,h1,h2,h3,h4⟩ | ⟨rfl,rfl,rfl,rfl,ho,hn⟩
 all_goals (try dsimp only at *)
 · exact wB 0 0 0 o n w (by omega) (by omega)
 · exact vM a 0 0 o n w (by omega) (by omega) h3 (by omega)
 · exact wY a e 0 o n w (by omega) (by omega) (by omega) (by omega)
 · exact vX a e 0 o n w (by omega) (by omega)
 · rcases hk with rfl | rfl
   · exact wW a 0 c o n w (by omega) (by omega) h1 (by omega) h3 (by omega)
   · exact wv a 0 c o n w (by omega) (by omega) h1 (by omega) h3 (by omega)
 · exact xr 0 0 0 o n w (by omega) (by omega)
open Go.RowKit Go.Sort
theorem first2_zero {a b:Int}:aP [a,b]=0↔a=0∧b=0:=by
 simp only[aP]
 by_cases h:a=0<;>by_cases h':b=0<;>simp[h,h']
def AE (x y:Op):Bool:=if aP [dq x,dq y]=0 then dA x y else false
set_option maxRecDepth 100000 in
set_option maxHeartbeats 2000000 in
theorem uW (x y:Op) (w:World) (hx:x.o.size≤3100∧x.n.size≤3100) (hy:y.o.size≤3100∧y.n.size≤3100) :
 Calls Tryz.prog 92 #[eQ x,eQ y] w fun r w'=>r=.returned (.tuple #[.bool (AE x y),.int .i64 (aP [dq x,dq y])])∧Below w.heap.size w w':=by
 have hE:=fun W=>cp x W hx.1 hx.2;have hF:=fun W=>cp y W hy.1 hy.2;obtain⟨er,her⟩:∃e,e=dq x:=⟨_,rfl⟩;obtain⟨fr,hfr⟩:∃e,e=dq y:=⟨_,rfl⟩;by_cases h0:aP [er,fr]=0
 · have hz:=first2_zero.1 h0
   have hT:=fun W=>tq x W ((eG x).1 (her.symm.trans hz.1));have hU:=fun W=>tq y W ((eG y).1 (hfr.symm.trans hz.2))
   have e1:AE x y=dA x y:=by unfold AE;rw[←her,←hfr,if_pos h0]
   have e2:aP [dq x,dq y]=0:=by rw[←her,←hfr];exact h0
   rw[e1,e2]
   have h0':(aP [er,fr] != 0)=false:=by simp[h0]
   obtain⟨⟨ta,tb⟩,hta⟩:∃t,t=cN x:=⟨_,rfl⟩;obtain⟨⟨tc,td⟩,htb⟩:∃t,t=cN y:=⟨_,rfl⟩
   have e3:dA x y=decide (max ta tc≥min tb td):=by unfold dA;rw[←hta,←htb]
   rw[e3];rw[←hta] at hT;rw[←htb] at hU;rw[←her] at hE;rw[←hfr] at hF;have HE:=Lib.hid hE;have HF:=Lib.hid hF;have HT:=Lib.hid hT;have HU:=Lib.hid hU;clear hE hF hT hU e1 e2 e3 hta htb her hfr hz h0;unfold eQ at *
   go_enter Tryz.func92,Tryz.ntmps92
   go_wp2_with fail
   (refine bh 4 (by kernel_rfl) (by kernel_rfl) ?_;simp only[List.take_succ_cons,List.take_zero,List.drop_succ_cons,List.drop_zero];(repeat (go_big_quiet_step ((first | (go_at_call 144;(with_reducible exact Calls.regrown_of (HE.out _))) | (go_at_call 144;(with_reducible exact Calls.regrown_of (HF.out _)))))));(with_reducible refine wpQuiet_nil ?_);intro W1 hreg;have hbW1:=aH hreg;clear hreg;obtain⟨hcW1,hfW1⟩:=aK hbW1)
   have hsW1:w.heap.size<W1.heap.size:=by have h:=hbW1.size;simp at h;omega
   have hsW2:w.heap.size+1<W1.heap.size:=by have h:=hbW1.size;simp at h;omega
   go_wp2_with (first | (go_at_call 143;refine(aZ [_,_] W1 (by simp)).mono ?_;rintro e w' ⟨rfl,rfl⟩) | (go_at_call 145;(with_reducible refine(HT.out _).mono ?_);rintro e W2 ⟨rfl,hbW2⟩;obtain⟨hcW2,hfW2⟩:=aK hbW2) | (go_at_call 145;(with_reducible refine(HU.out _).mono ?_);rintro e W3 ⟨rfl,hbW3⟩;obtain⟨hcW3,hfW3⟩:=aK hbW3))
   go_ret2
   exact⟨by rfl,by(repeat (first | assumption | exact Below.refl _ _ | refine au ?_ _ | refine ao ?_ _ | refine ar ?_ (by assumption) | refine Below.trans ?_ (by assumption)))⟩
 · have e1:AE x y=false:=by unfold AE;rw[←her,←hfr,if_neg h0]
   have h0':(aP [er,fr] != 0)=true:=by simp[h0]
   rw[e1,←her,←hfr];rw[←her] at hE;rw[←hfr] at hF;have HE:=Lib.hid hE;have HF:=Lib.hid hF;clear hE hF e1 her hfr h0;unfold eQ at *
   go_enter Tryz.func92,Tryz.ntmps92
   go_wp2_with fail
   (refine bh 4 (by kernel_rfl) (by kernel_rfl) ?_;simp only[List.take_succ_cons,List.take_zero,List.drop_succ_cons,List.drop_zero];(repeat (go_big_quiet_step ((first | (go_at_call 144;(with_reducible exact Calls.regrown_of (HE.out _))) | (go_at_call 144;(with_reducible exact Calls.regrown_of (HF.out _)))))));(with_reducible refine wpQuiet_nil ?_);intro W1 hreg;have hbW1:=aH hreg;clear hreg;obtain⟨hcW1,hfW1⟩:=aK hbW1)
   go_wp2_with (first | (go_at_call 143;refine(aZ [_,_] W1 (by simp)).mono ?_;rintro e w' ⟨rfl,rfl⟩))
   go_ret2
   exact⟨by rfl,by(repeat (first | assumption | exact Below.refl _ _ | refine au ?_ _ | refine ao ?_ _ | refine ar ?_ (by assumption) | refine Below.trans ?_ (by assumption)))⟩
set_option maxRecDepth 4000
open Go.RowKit Go.Sort Go.Shelf
theorem Rd.dropF {α:Type} {f:α→List Value} {n:Nat} (hf:∀x,(f x).length=n) {w:World} {B b o:Nat} {l:List α} (h:Rd w B (some ⟨b,o,none⟩) (l.flatMap f)) (k:Nat):Rd w B (some ⟨b,o+k*n,none⟩) ((l.drop k).flatMap f):=fun j u hj=>by
 rw[←nR hf,List.getElem?_drop] at hj;obtain⟨b',o',e,h1,h2⟩:=h (k*n+j) u hj;injection e with e;injection e with e1 e2;subst e1 e2;exact⟨b,o+k*n,rfl,h1,by rw[Nat.add_assoc];exact h2⟩
theorem lB {o c l sz:Nat} (h:l<c):eV o c l sz=o+l*sz:=by unfold eV;rw[if_neg (by omega)]
theorem xN (x y:Rcd):((x.e.t==y.e.t)&&(y.e.k==2||y.e.k==4))=jt y.e x.e.t:=by
 unfold jt
 congr 1
 rw[Bool.eq_iff_iff,beq_iff_eq,beq_iff_eq];exact eq_comm
theorem AN {x y:Op} (hx:dq x=0) (hy:dq y=0):AE x y=dA x y:=by
 unfold AE;rw[if_pos (by rw[hx,hy];rfl)]
theorem pJ (l:List Rcd) (A:Option Addr) (c:Nat) (w:World) (hr:Rd w w.heap.size A (l.flatMap cg)) (hl:l.length≤1000) (hc:l.length≤c) (hF:FolT w) (hx:∀x∈l,FewE x.e) :
 Calls Tryz.prog 37 #[.slice A l.length c] w fun e w'=>e=.returned (.tuple #[.bool ((dI l).2==0&&j8 l),.int .i64 (dI l).2])∧Below w.heap.size w w':=by
 refine aF (N:=105) Tryz.func37 rfl rfl rfl (fun _ h0=>?_);have S0:=St.init w;refine ab (ah ?_);refine ma h0 rfl rfl fun _ h1=>?_;refine ma h1 rfl rfl fun _ h2=>?_;refine ae (aa (ab (ab (ah ?_))));refine mv h2 rfl rfl fun _ h3=>?_;refine aS h3 (wn rfl) (aq (fun _ _=>by kernel_rfl) (h3.evs rfl) rfl) rfl rfl S0 (dP l A c _ (S0.rd0 hr) hl hc (hF.below S0.below) hx) fun _ _ h4 S4=>?_;refine ma h4 rfl rfl fun _ h5=>?_;refine cm ?_;refine mv h5 rfl rfl fun _ h6=>?_;refine sv h6 (a8 (h6.ev rfl) (h6.ev rfl)) fun _ h7=>?_;refine ae (aa ?_);refine aB (h7.ev rfl) (fun hc0=>?_) (fun hc0=>?_)
 ·
  have hne:(dI l).2≠0:=by simpa using hc0
  refine ab (ah ?_);refine mv h7 rfl rfl fun _ h8=>?_;refine ma h8 rfl rfl fun _ h9=>?_;refine ma h9 rfl rfl fun _ h10=>?_;refine ae (aa (wp_ret (ai ?_)));refine eh h10 rfl rfl rfl ?_;exact⟨by rw[show((dI l).2==0)=false by rw[beq_eq_false_iff_ne];exact hne];rfl,S4.below⟩
 ·
  have hz:(dI l).2=0:=by simpa using hc0
  have hve:∀x∈l,dq x.e.o=0:=fun x hx=>by
   obtain⟨k,hk,rfl⟩:=List.getElem_of_mem hx;exact px ((j9 hz).2.e0 hk).2.2
  refine wp_skip (aa (ab (ab (ah ?_))));refine mv h7 rfl rfl fun _ h11=>?_;refine sv h11 (bf Tryz.underlying41 (h11.ev rfl)) fun _ h12=>?_;refine mv h12 rfl rfl fun _ h13=>?_;refine ae (aa (wp_block ?_));refine bz h13 S4 [19,18,0] (fun (i:Nat)=>[(20,.int .i64 i)]) (fun (i:Nat)=>i≤l.length∧j8 l=j8 (l.drop i)) (fun (i:Nat) L=>L) (fun (i:Nat)=>l.length-i) (0) (⟨Nat.zero_le _,rfl⟩) ⟨rfl,rfl,rfl,rfl,trivial⟩ (S4) ?_;intro i _ _ hF0 h14 S14;refine ab (ah ?_);refine sv h14 (bq (h14.ev rfl) (h14.ev rfl)) fun _ h15=>?_;refine ae (aa (ab ?_));refine aB (h15.ev rfl) (fun hc1=>?_) (fun hc1=>?_)
  ·
   have hlt:i<l.length:=by have:=of_decide_eq_true hc1;omega
   obtain⟨b1,o1,rfl,hB,_⟩:=hr.opened (aR aJ (by decide) (by omega));have hdr:l.drop i=l[i]::l.drop (i+1):=List.drop_eq_getElem_cons hlt
   have hst:j8 (l.drop i)=(kv l[i] false (l.drop (i+1))&&j8 (l.drop (i+1))):=by rw[hdr];rfl
   have hrl:(l.drop (i+1)).length=l.length-(i+1):=List.length_drop ..;have hxi:=hx _ (List.getElem_mem hlt);have hvi:=hve _ (List.getElem_mem hlt);refine wp_skip (aa (ab (wp_block (ab (ah ?_)))));refine mv h15 rfl rfl fun _ h16=>?_;refine sv h16 (aC (i:=i) (sz:=14) Tryz.underlying41 (by kernel_rfl) (h16.ev rfl) (h16.ev rfl) (by omega) (by omega) rfl) fun _ h17=>?_;refine sv (v:=fS l[i]) h17 (ay (by kernel_rfl) (by kernel_rfl) (h17.ev rfl) (a7 aJ (S14.rd0 hr) hlt)) fun _ h18=>?_;refine na (.agg #[.int .i64 0,.int .i64 0,.int .i64 0,.int .i64 0,.int .i64 0,.int .i64 0,.bool false,.int .i64 0,.int .i64 0,.int .i64 0,.int .i64 0,.string ⟨#[]⟩,.string ⟨#[]⟩,.string ⟨#[]⟩]) h18 rfl S14 fun b6 _ _ gb6 h19 S19=>?_;refine ma h19 rfl rfl fun _ h20=>?_;refine aG h20 (wn rfl) ⟨rfl,rfl⟩ (h20.ev rfl) (h20.ev rfl) rfl (by kernel_rfl) S19 (i:=0) rfl rfl rfl fun _ S21=>?_;refine cm ?_;refine ma h20 rfl rfl fun _ h22=>?_;refine cm ?_;refine mv h22 rfl rfl fun _ h23=>?_;refine mv h23 rfl rfl fun _ h24=>?_;refine sv h24 (aV (h24.ev rfl) (h24.ev rfl) (by omega)) fun _ h25=>?_;refine sv h25 (fy (l:=i+1) (h:=l.length) (sz:=14) Tryz.underlying41 (by kernel_rfl) (h25.ev rfl) (h25.ev rfl) rfl (by omega) (by omega)) fun _ h26=>?_;refine sv h26 (bf Tryz.underlying41 (h26.ev rfl)) fun _ h27=>?_;refine mv h27 rfl rfl fun _ h28=>?_;refine ae (aa (wp_block ?_));refine bz h28 S21 [29,28,27,26,25,5,6,24,23,22,21,20,19,18,0] (fun (q:Nat × Bool)=>[(30,.int .i64 (q.1:Nat)),(7,.bool q.2)]) (fun (q:Nat × Bool)=>q.1≤l.length-(i+1)∧kv l[i] false (l.drop (i+1))=kv l[i] q.2 ((l.drop (i+1)).drop q.1)) (fun (q:Nat × Bool) L=>L) (fun (q:Nat × Bool)=>l.length-(i+1)-q.1) ((0,false)) (⟨Nat.zero_le _,rfl⟩) ⟨rfl,rfl,rfl,rfl,rfl,rfl,rfl,rfl,rfl,rfl,rfl,rfl,rfl,rfl,rfl,rfl,rfl,trivial⟩ (S21) ?_
   intro q _ _ hF1 h29 S29;refine ab (ah ?_);refine sv h29 (bq (h29.ev rfl) (h29.ev rfl)) fun _ h30=>?_;refine ae (aa (ab ?_));refine aB (h30.ev rfl) (fun hc2=>?_) (fun hc2=>?_)
   ·
    have hlt2:q.1<l.length-(i+1):=by have:=of_decide_eq_true hc2;omega
    have hk2:q.1<(l.drop (i+1)).length:=by rw[hrl];exact hlt2
    have hrdJ:Rd w w.heap.size (some ⟨b1,eV o1 c (i+1) 14,none⟩) ((l.drop (i+1)).flatMap cg):=by rw[lB (by omega)];exact hr.dropF aJ (i+1)
    have hun:=hF1.2;rw[List.drop_eq_getElem_cons hk2,kv] at hun;have hyl:(l.drop (i+1))[q.1]∈l:=List.mem_of_mem_drop (List.getElem_mem hk2);have hxy:=hx _ hyl;have hvy:=hve _ hyl;have hre:=xN l[i] (l.drop (i+1))[q.1];have hap:=AN hvi hvy;refine wp_skip (aa (ab (wp_block (ab (ah ?_)))));refine sv h30 (aC (i:=q.1) (sz:=14) Tryz.underlying41 (by kernel_rfl) (h30.ev rfl) (h30.ev rfl) (by omega) (by omega) rfl) fun _ h31=>?_;refine sv (v:=fS (l.drop (i+1))[q.1]) h31 (ay (by kernel_rfl) (by kernel_rfl) (h31.ev rfl) (a7 aJ (S29.rd0 hrdJ) hk2)) fun _ h32=>?_;refine na (.agg #[.int .i64 0,.int .i64 0,.int .i64 0,.int .i64 0,.int .i64 0,.int .i64 0,.bool false,.int .i64 0,.int .i64 0,.int .i64 0,.int .i64 0,.string ⟨#[]⟩,.string ⟨#[]⟩,.string ⟨#[]⟩]) h32 rfl S29 fun b9 _ _ gb9 h33 S33=>?_;refine aG h33 (wn rfl) ⟨rfl,rfl⟩ (h33.ev rfl) (h33.ev rfl) rfl (by kernel_rfl) S33 (i:=0) rfl rfl rfl fun _ S34=>?_;refine cm ?_;refine vf h33 1 1 rfl rfl rfl fun _ h35=>?_;refine vf h35 1 2 rfl rfl rfl fun _ h36=>?_;refine vl h36 S34 1 rfl rfl rfl rfl fun _ h37=>?_;refine vf h37 1 1 rfl rfl rfl fun _ h38=>?_;refine vf h38 1 2 rfl rfl rfl fun _ h39=>?_;refine vl h39 S34 0 rfl rfl rfl rfl fun _ h40=>?_;refine sv h40 (aX (h40.ev rfl) (h40.ev rfl)) fun _ h41=>?_;refine ma h41 rfl rfl fun _ h42=>?_;refine cm ?_;refine mv h42 rfl rfl fun _ h43=>?_;refine mv h43 rfl rfl fun _ h44=>?_;apply dw (x:=((l[i].e.t==(l.drop (i+1))[q.1].e.t)&&((l.drop (i+1))[q.1].e.k==2||(l.drop (i+1))[q.1].e.k==4))) h44 S34 42 rfl 14 56
    case hf=>
     intro gc42;refine sy h44 rfl rfl rfl gc42 (ak (h44.ev rfl)) rfl rfl fun _ h45=>?_;refine sy h45 rfl rfl rfl gc42 (ak (h45.ev rfl)) rfl rfl fun _ h46=>?_;apply cq (x:=((l.drop (i+1))[q.1].e.k==2||(l.drop (i+1))[q.1].e.k==4)) h46 S34 44 rfl 11 55
     case ht=>
      intro gc44;refine sy h46 rfl rfl rfl gc44 (aj (off:=1) (j:=1) (by kernel_rfl) (h46.ev rfl) rfl) rfl rfl fun _ h47=>?_;refine sy h47 rfl rfl rfl gc44 (aj (off:=0) (j:=1) (by kernel_rfl) (h47.ev rfl) rfl) rfl rfl fun _ h48=>?_;refine sy h48 rfl rfl rfl gc44 (aw (by kernel_rfl) (h48.ev rfl) (S34.cell (i:=0) rfl rfl)) rfl rfl fun _ h49=>?_;refine sy h49 rfl rfl rfl gc44 (aX (h49.ev rfl) (h49.ev rfl)) rfl rfl fun _ h50=>?_;refine sy h50 rfl rfl rfl gc44 (ak (h50.ev rfl)) rfl rfl fun _ h51=>?_;apply dw (x:=(l.drop (i+1))[q.1].e.k==4) h51 S34 49 rfl 5 54
      case hf=>
       intro gc49;refine sy h51 rfl rfl rfl gc49 (aj (off:=1) (j:=1) (by kernel_rfl) (h51.ev rfl) rfl) rfl rfl fun _ h52=>?_;refine sy h52 rfl rfl rfl gc49 (aj (off:=0) (j:=1) (by kernel_rfl) (h52.ev rfl) rfl) rfl rfl fun _ h53=>?_;refine sy h53 rfl rfl rfl gc49 (aw (by kernel_rfl) (h53.ev rfl) (S34.cell (i:=0) rfl rfl)) rfl rfl fun _ h54=>?_;refine sy h54 rfl rfl rfl gc49 (aX (h54.ev rfl) (h54.ev rfl)) rfl rfl fun _ h55=>?_;refine sy h55 rfl rfl rfl gc44 (aD (h55.ev rfl) gc49 (h55.ev rfl)) rfl rfl fun _ h56=>?_;exact ae ⟨h56.mid (m:=[(_,_),(_,_),(_,_),(_,_)]) rfl,S34⟩
      case ht=>
       intro gc49;refine no h51 rfl rfl rfl gc49 rfl rfl fun _ h57=>?_;refine no h57 rfl rfl rfl gc49 rfl rfl fun _ h58=>?_;refine no h58 rfl rfl rfl gc49 rfl rfl fun _ h59=>?_;refine no h59 rfl rfl rfl gc49 rfl rfl fun _ h60=>?_;refine sy h60 rfl rfl rfl gc44 (aA (h60.ev rfl) gc49 (h60.ev rfl)) rfl rfl fun _ h61=>?_;exact ae ⟨h61.mid (m:=[(_,_),(_,_),(_,_),(_,_)]) rfl,S34⟩
      case h=>
       rintro a62 X62 ⟨h62,S62⟩
       refine sy h62 rfl rfl rfl gc42 (aA (h62.ev rfl) gc44 (h62.ev rfl)) rfl rfl fun _ h63=>?_;exact ae ⟨h63.mid (m:=[(_,_),(_,_),(_,_),(_,_),(_,_),(_,_)]) rfl,S62⟩
     case hf=>
      intro gc44;refine no h46 rfl rfl rfl gc44 rfl rfl fun _ h64=>?_;refine no h64 rfl rfl rfl gc44 rfl rfl fun _ h65=>?_;refine no h65 rfl rfl rfl gc44 rfl rfl fun _ h66=>?_;refine no h66 rfl rfl rfl gc44 rfl rfl fun _ h67=>?_;refine no h67 rfl rfl rfl gc44 rfl rfl fun _ h68=>?_;refine ec h68 (bH h68 _ rfl rfl rfl) rfl rfl fun _ h69=>?_;refine ec h69 (bH h69 _ rfl rfl rfl) rfl rfl fun _ h70=>?_;refine ec h70 (bH h70 _ rfl rfl rfl) rfl rfl fun _ h71=>?_;refine ec h71 (bH h71 _ rfl rfl rfl) rfl rfl fun _ h72=>?_;refine no h72 rfl rfl rfl gc44 rfl rfl fun _ h73=>?_;refine sy h73 rfl rfl rfl gc42 (aD (h73.ev rfl) gc44 (h73.ev rfl)) rfl rfl fun _ h74=>?_;exact ae ⟨h74.mid (m:=[(_,_),(_,_),(_,_),(_,_),(_,_),(_,_),(_,_),(_,_),(_,_),(_,_)]) rfl,S34⟩
     case h=>
      rintro a75 X75 ⟨h75,S75⟩
      refine sv h75 (aD (h75.ev rfl) gc42 (h75.ev rfl)) fun _ h76=>?_;exact ae ⟨h76.mid (m:=[(_,_),(_,_),(_,_)]) rfl,S75⟩
    case ht=>
     intro gc42;refine no h44 rfl rfl rfl gc42 rfl rfl fun _ h77=>?_;refine no h77 rfl rfl rfl gc42 rfl rfl fun _ h78=>?_;refine ec h78 (bH h78 _ rfl rfl rfl) rfl rfl fun _ h79=>?_;refine ec h79 (bH h79 _ rfl rfl rfl) rfl rfl fun _ h80=>?_;refine ec h80 (bH h80 _ rfl rfl rfl) rfl rfl fun _ h81=>?_;refine ec h81 (bH h81 _ rfl rfl rfl) rfl rfl fun _ h82=>?_;refine ec h82 (bH h82 _ rfl rfl rfl) rfl rfl fun _ h83=>?_;refine ec h83 (bH h83 _ rfl rfl rfl) rfl rfl fun _ h84=>?_;refine ec h84 (bH h84 _ rfl rfl rfl) rfl rfl fun _ h85=>?_;refine ec h85 (bH h85 _ rfl rfl rfl) rfl rfl fun _ h86=>?_;refine ec h86 (bH h86 _ rfl rfl rfl) rfl rfl fun _ h87=>?_;refine ec h87 (bH h87 _ rfl rfl rfl) rfl rfl fun _ h88=>?_;refine no h88 rfl rfl rfl gc42 rfl rfl fun _ h89=>?_;refine sv h89 (aA (h89.ev rfl) gc42 (h89.ev rfl)) fun _ h90=>?_;exact ae ⟨h90.mid (m:=[(_,_),(_,_),(_,_),(_,_),(_,_),(_,_),(_,_),(_,_),(_,_),(_,_),(_,_),(_,_),(_,_)]) rfl,S34⟩
    case h=>
     rintro a91 X91 ⟨h91,S91⟩
     refine ma h91 rfl rfl fun _ h92=>?_;refine ae (aa (ab (ab (ah ?_))));refine vf h92 1 1 rfl rfl rfl fun _ h93=>?_;refine sv (v:=dz l[i].e) h93 (ay (by kernel_rfl) (by kernel_rfl) (h93.ev rfl) (S91.cellsOf (i:=1) rfl 1 13)) fun _ h94=>?_;refine aS h94 (wn rfl) (aq (fun _ _=>by kernel_rfl) (h94.evs rfl) rfl) rfl rfl S91 (fO _ _) fun _ _ h95 S95=>?_;refine sv h95 (bL (h95.ev rfl)) fun _ h96=>?_;refine mv h96 rfl rfl fun _ h97=>?_;apply dw (x:=!cd (l.drop (i+1))[q.1].e) h97 S95 61 rfl 5 66
     case hf=>
      intro gc61;refine sy h97 rfl rfl rfl gc61 (aj (off:=1) (j:=1) (by kernel_rfl) (h97.ev rfl) rfl) rfl rfl fun _ h98=>?_;refine aU (v:=dz (l.drop (i+1))[q.1].e) h98 (ag h98 _ rfl rfl rfl gc61) (ay (by kernel_rfl) (by kernel_rfl) (h98.ev rfl) (S95.cellsOf (i:=0) rfl 1 13)) rfl rfl fun _ h99=>?_;refine aS h99 (ag h99 _ rfl rfl rfl gc61) (aq (fun _ _=>by kernel_rfl) (h99.evs rfl) rfl) rfl rfl S95 (fO _ _) fun _ _ h100 S100=>?_;refine sy h100 rfl rfl rfl gc61 (bL (h100.ev rfl)) rfl rfl fun _ h101=>?_;refine sv h101 (aD (h101.ev rfl) gc61 (h101.ev rfl)) fun _ h102=>?_;exact ae ⟨h102.mid (m:=[(_,_),(_,_),(_,_),(_,_)]) rfl,S100⟩
     case ht=>
      intro gc61;refine no h97 rfl rfl rfl gc61 rfl rfl fun _ h103=>?_;refine no h103 rfl rfl rfl gc61 rfl rfl fun _ h104=>?_;refine no h104 rfl rfl rfl gc61 rfl rfl fun _ h105=>?_;refine no h105 rfl rfl rfl gc61 rfl rfl fun _ h106=>?_;refine sv h106 (aA (h106.ev rfl) gc61 (h106.ev rfl)) fun _ h107=>?_;exact ae ⟨h107.mid (m:=[(_,_),(_,_),(_,_),(_,_)]) rfl,S95⟩
     case h=>
      rintro a108 X108 ⟨h108,S108⟩
      refine mv h108 rfl rfl fun _ h109=>?_;apply dw (x:=l[i].e.g != (l.drop (i+1))[q.1].e.g) h109 S108 67 rfl 8 75
      case hf=>
       intro gc67;refine sy h109 rfl rfl rfl gc67 (aj (off:=1) (j:=1) (by kernel_rfl) (h109.ev rfl) rfl) rfl rfl fun _ h110=>?_;refine sy h110 rfl rfl rfl gc67 (aj (off:=4) (j:=5) (by kernel_rfl) (h110.ev rfl) rfl) rfl rfl fun _ h111=>?_;refine sy h111 rfl rfl rfl gc67 (aw (by kernel_rfl) (h111.ev rfl) (S108.cell (i:=1) rfl rfl)) rfl rfl fun _ h112=>?_;refine sy h112 rfl rfl rfl gc67 (aj (off:=1) (j:=1) (by kernel_rfl) (h112.ev rfl) rfl) rfl rfl fun _ h113=>?_;refine sy h113 rfl rfl rfl gc67 (aj (off:=4) (j:=5) (by kernel_rfl) (h113.ev rfl) rfl) rfl rfl fun _ h114=>?_;refine sy h114 rfl rfl rfl gc67 (aw (by kernel_rfl) (h114.ev rfl) (S108.cell (i:=0) rfl rfl)) rfl rfl fun _ h115=>?_;refine sy h115 rfl rfl rfl gc67 (a8 (h115.ev rfl) (h115.ev rfl)) rfl rfl fun _ h116=>?_;refine sv h116 (aD (h116.ev rfl) gc67 (h116.ev rfl)) fun _ h117=>?_;exact ae ⟨h117.mid (m:=[(_,_),(_,_),(_,_),(_,_),(_,_),(_,_),(_,_)]) rfl,S108⟩
      case ht=>
       intro gc67;refine no h109 rfl rfl rfl gc67 rfl rfl fun _ h118=>?_;refine no h118 rfl rfl rfl gc67 rfl rfl fun _ h119=>?_;refine no h119 rfl rfl rfl gc67 rfl rfl fun _ h120=>?_;refine no h120 rfl rfl rfl gc67 rfl rfl fun _ h121=>?_;refine no h121 rfl rfl rfl gc67 rfl rfl fun _ h122=>?_;refine no h122 rfl rfl rfl gc67 rfl rfl fun _ h123=>?_;refine no h123 rfl rfl rfl gc67 rfl rfl fun _ h124=>?_;refine sv h124 (aA (h124.ev rfl) gc67 (h124.ev rfl)) fun _ h125=>?_;exact ae ⟨h125.mid (m:=[(_,_),(_,_),(_,_),(_,_),(_,_),(_,_),(_,_)]) rfl,S108⟩
      case h=>
       rintro a126 X126 ⟨h126,S126⟩
       refine ae (aa ?_);refine aB (h126.ev rfl) (fun hc3=>?_) (fun hc3=>?_)
       ·
        have hno:¬(cd l[i].e&&cd (l.drop (i+1))[q.1].e&&l[i].e.g==(l.drop (i+1))[q.1].e.g)=true:=fun h=>by
         rw[Bool.and_eq_true,Bool.and_eq_true,beq_iff_eq] at h;rw[h.1.1,h.1.2] at hc3;simp[h.2] at hc3
        rw[if_neg hno,←hre] at hun;refine wp_exit ?_;refine av ?_;refine bn ?_;refine aa (ah ?_);refine sv h126 (aV (h126.ev rfl) (h126.ev rfl) (by omega)) fun _ h127=>?_;refine mv h127 rfl rfl fun _ h128=>?_;refine ae (aa ?_);exact⟨(q.1+1,(q.2||((l[i].e.t==(l.drop (i+1))[q.1].e.t)&&((l.drop (i+1))[q.1].e.k==2||(l.drop (i+1))[q.1].e.k==4)))),(by show l.length-(i+1)-(q.1+1)<l.length-(i+1)-q.1;omega),⟨hlt2,hun⟩,h128.re ⟨rfl,rfl,rfl,rfl,rfl,rfl,rfl,rfl,rfl,rfl,rfl,rfl,rfl,rfl,rfl,rfl,rfl,trivial⟩,S126.sub (.cons _ (.cons_cons _ .slnil))⟩
       ·
        have hyes:(cd l[i].e&&cd (l.drop (i+1))[q.1].e&&l[i].e.g==(l.drop (i+1))[q.1].e.g)=true:=by
         rw[Bool.or_eq_false_iff,Bool.or_eq_false_iff] at hc3;obtain⟨⟨u1,u2⟩,u3⟩:=hc3;rw[Bool.and_eq_true,Bool.and_eq_true];exact⟨⟨by simpa using u1,by simpa using u2⟩,by simpa using u3⟩
        rw[if_pos hyes] at hun;refine wp_skip (aa (ab (ab (ah ?_))));refine vf h126 1 1 rfl rfl rfl fun _ h129=>?_;refine vf h129 5 6 rfl rfl rfl fun _ h130=>?_;refine vl h130 S126 1 rfl rfl rfl rfl fun _ h131=>?_;refine vf h131 1 1 rfl rfl rfl fun _ h132=>?_;refine vf h132 5 6 rfl rfl rfl fun _ h133=>?_;refine vl h133 S126 0 rfl rfl rfl rfl fun _ h134=>?_;refine sv h134 (jV Tryz.underlying4 (h134.ev rfl) (h134.ev rfl)) fun _ h135=>?_;refine ae (aa ?_);refine aB (h135.ev rfl) (fun hc4=>?_) (fun hc4=>?_)
        ·
         have hff:l[i].e.f≠(l.drop (i+1))[q.1].e.f:=by simpa using hc4
         rw[if_pos hff] at hun;refine ab (ah ?_);refine ma h135 rfl rfl fun _ h136=>?_;refine ma h136 rfl rfl fun _ h137=>?_;refine ae (aa (wp_ret (ai (az (ai (ai (az (az (ai (ai (az (ai ?_))))))))))));refine eh h137 rfl rfl rfl ?_;exact⟨by rw[hz,hF0.2,hst,hun];rfl,S126.below⟩
        ·
         have hff:¬l[i].e.f≠(l.drop (i+1))[q.1].e.f:=by simpa using hc4
         rw[if_neg hff] at hun;refine wp_skip (aa (ab (ah ?_)));refine vf h135 1 1 rfl rfl rfl fun _ h138=>?_;refine vf h138 6 7 rfl rfl rfl fun _ h139=>?_;refine sv (v:=eQ l[i].e.o) h139 (ay (by kernel_rfl) (by kernel_rfl) (h139.ev rfl) (S126.cellsOf (i:=1) rfl 7 6)) fun _ h140=>?_;refine vf h140 1 1 rfl rfl rfl fun _ h141=>?_;refine vf h141 6 7 rfl rfl rfl fun _ h142=>?_;refine sv (v:=eQ (l.drop (i+1))[q.1].e.o) h142 (ay (by kernel_rfl) (by kernel_rfl) (h142.ev rfl) (S126.cellsOf (i:=0) rfl 7 6)) fun _ h143=>?_;refine aS h143 (wn rfl) (aq (fun _ _=>by kernel_rfl) (h143.evs rfl) rfl) rfl rfl S126 (uW l[i].e.o (l.drop (i+1))[q.1].e.o _ ⟨hxi.o,hxi.n⟩ ⟨hxy.o,hxy.n⟩) fun _ _ h144 S144=>?_;refine mv h144 rfl rfl fun _ h145=>?_;refine sv h145 (bb (v':=.bool (dA l[i].e.o (l.drop (i+1))[q.1].e.o)) (congrArg Value.bool hap) (bG (h145.ev rfl) rfl)) fun _ h146=>?_;refine vx h146 rfl rfl rfl fun _ h147=>?_;refine ma h147 rfl rfl fun _ h148=>?_;refine ma h148 rfl rfl fun _ h149=>?_;refine cm ?_;refine mv h149 rfl rfl fun _ h150=>?_;refine sv h150 (bL (h150.ev rfl)) fun _ h151=>?_;refine mv h151 rfl rfl fun _ h152=>?_;apply cq (x:=!(l[i].e.t==(l.drop (i+1))[q.1].e.t)) h152 S144 95 rfl 3 98
         case ht=>
          intro gc95;refine sy h152 rfl rfl rfl gc95 (ak (h152.ev rfl)) rfl rfl fun _ h153=>?_;refine sy h153 rfl rfl rfl gc95 (bL (h153.ev rfl)) rfl rfl fun _ h154=>?_;refine sv h154 (aA (h154.ev rfl) gc95 (h154.ev rfl)) fun _ h155=>?_;exact ae ⟨h155.mid (m:=[(_,_),(_,_)]) rfl,S144⟩
         case hf=>
          intro gc95;refine no h152 rfl rfl rfl gc95 rfl rfl fun _ h156=>?_;refine no h156 rfl rfl rfl gc95 rfl rfl fun _ h157=>?_;refine sv h157 (aD (h157.ev rfl) gc95 (h157.ev rfl)) fun _ h158=>?_;exact ae ⟨h158.mid (m:=[(_,_),(_,_)]) rfl,S144⟩
         case h=>
          rintro a159 X159 ⟨h159,S159⟩
          refine mv h159 rfl rfl fun _ h160=>?_;apply cq (x:=!(q.2||((l[i].e.t==(l.drop (i+1))[q.1].e.t)&&((l.drop (i+1))[q.1].e.k==2||(l.drop (i+1))[q.1].e.k==4)))) h160 S159 99 rfl 3 102
          case ht=>
           intro gc99;refine sy h160 rfl rfl rfl gc99 (ak (h160.ev rfl)) rfl rfl fun _ h161=>?_;refine sy h161 rfl rfl rfl gc99 (bL (h161.ev rfl)) rfl rfl fun _ h162=>?_;refine sv h162 (aA (h162.ev rfl) gc99 (h162.ev rfl)) fun _ h163=>?_;exact ae ⟨h163.mid (m:=[(_,_),(_,_)]) rfl,S159⟩
          case hf=>
           intro gc99;refine no h160 rfl rfl rfl gc99 rfl rfl fun _ h164=>?_;refine no h164 rfl rfl rfl gc99 rfl rfl fun _ h165=>?_;refine sv h165 (aD (h165.ev rfl) gc99 (h165.ev rfl)) fun _ h166=>?_;exact ae ⟨h166.mid (m:=[(_,_),(_,_)]) rfl,S159⟩
          case h=>
           rintro a167 X167 ⟨h167,S167⟩
           refine ae (aa ?_);refine aB (h167.ev rfl) (fun hc5=>?_) (fun hc5=>?_)
           ·
            rw[hre] at hc5;rw[if_pos hc5] at hun;refine ab (ah ?_);refine ma h167 rfl rfl fun _ h168=>?_;refine ma h168 rfl rfl fun _ h169=>?_;refine ae (aa (wp_ret (az (ai (ai (az (az (ai (ai (az (ai ?_)))))))))));refine eh h169 rfl rfl rfl ?_;exact⟨by rw[hz,hF0.2,hst,hun];rfl,S167.below⟩
           ·
            rw[hre] at hc5;rw[if_neg (by rw[hc5];decide),←hre] at hun;refine wp_skip (aO (aa (ah ?_)));refine sv h167 (aV (h167.ev rfl) (h167.ev rfl) (by omega)) fun _ h170=>?_;refine mv h170 rfl rfl fun _ h171=>?_;refine ae (aa ?_);exact⟨(q.1+1,(q.2||((l[i].e.t==(l.drop (i+1))[q.1].e.t)&&((l.drop (i+1))[q.1].e.k==2||(l.drop (i+1))[q.1].e.k==4)))),(by show l.length-(i+1)-(q.1+1)<l.length-(i+1)-q.1;omega),⟨hlt2,hun⟩,h171.re ⟨rfl,rfl,rfl,rfl,rfl,rfl,rfl,rfl,rfl,rfl,rfl,rfl,rfl,rfl,rfl,rfl,rfl,trivial⟩,S167.sub (.cons _ (.cons_cons _ .slnil))⟩
   ·
    have hge2:l.length-(i+1)≤q.1:=by have:=of_decide_eq_false hc2;omega
    have hin:=hF1.2;have hd0:(l.drop (i+1)).drop q.1=[]:=List.drop_of_length_le (by rw[hrl];exact hge2);rw[hd0,kv] at hin;refine wp_exit ?_;refine av ?_;refine av ?_;refine bn ?_;refine aO (aa (ah ?_));refine sv h30 (aV (h30.ev rfl) (h30.ev rfl) (by omega)) fun _ h172=>?_;refine mv h172 rfl rfl fun _ h173=>?_;refine ae (aa ?_);exact⟨i+1,(by omega),⟨hlt,by rw[hF0.2,hst,hin];rfl⟩,h173.re ⟨rfl,rfl,rfl,rfl,trivial⟩,S29.sub (.cons _ .slnil)⟩
  ·
   have hge:l.length≤i:=by have:=of_decide_eq_false hc1;omega
   have hend:=hF0.2;rw[List.drop_of_length_le hge] at hend;refine wp_exit ?_;refine av ?_;refine av ?_;refine bn ?_;refine aa (ab (ah ?_));refine ma h15 rfl rfl fun _ h174=>?_;refine ma h174 rfl rfl fun _ h175=>?_;refine ae (aa (wp_ret ?_));refine eh h175 rfl rfl rfl ?_;exact⟨by rw[hz,hend];rfl,S14.below⟩
set_option maxRecDepth 4000
open Go.RowKit Go.Sort Go.Shelf
theorem Has.also {ds:List Deferred} {a:Act} {N t:Nat} {l:List (Nat × Value)} {v:Value} (h:Has ds a N l) (ht:look l t=some v):Has ds a N ((t,v)::l):=⟨h.defers,h.size,fun u x hu=>by
 unfold look at hu
 cases hb:Nat.beq t u with
 | true=>
  rw[hb] at hu;obtain rfl:=Nat.eq_of_beq_eq_true hb;injection hu with hu;subst hu;exact h.slot _ _ ht
 | false=>rw[hb] at hu;exact h.slot _ _ hu⟩
def zQ {α:Type} (p:α→Bool):List α→Nat→Int
 | [],_=>-1
 | x::r,k=>if p x=true then k else zQ p r (k+1)
theorem sW {α:Type} (p:α→Bool):∀(l:List α) (k:Nat),decide (zQ p l k≥0)=l.any p
 | [],k=>rfl
 | x::r,k=>by
  unfold zQ;rw[List.any_cons]
  cases h:p x with
  | true=>rw[if_pos rfl,decide_eq_true (by omega)];rfl
  | false=>rw[if_neg (by decide),sW p r (k+1)];rfl
theorem rU (p:Rcd→Bool) (l:List Rcd) (A:Option Addr) (c:Nat) (f:FuncId) (cap:List Value) (w:World) (hr:Rd w w.heap.size A (l.flatMap cg)) (hlen:l.length≤1000) (hfc:∀(vs:Array Value) (W:World),(callFunc f vs).run Tryz.prog W=.ok (.enter f vs) W)
 (hcl:∀X,Below w.heap.size w X→∀(k:Nat) (hk:k<l.length),Calls Tryz.prog f ([fS l[k]] ++ cap).toArray X fun e X'=>e=.returned (.bool (p l[k]))∧Below X.heap.size X X') :
 Calls Tryz.prog 146 #[.slice A l.length c,.func (.func f) #[] cap.toArray] w fun e w'=>e=.returned (.int .i64 (zQ p l 0))∧Below w.heap.size w w':=by
 refine aF (N:=19) Tryz.func146 rfl rfl rfl (fun _ Y=>?_);have Z:=St.init w;refine ab (ah ?_);refine ma Y rfl rfl fun _ Y=>?_;refine ae (aa (ab (ab (ah ?_))));refine mv Y rfl rfl fun _ Y=>?_;refine sv Y (bf Tryz.underlying41 (Y.ev rfl)) fun _ Y=>?_;refine mv Y rfl rfl fun _ Y=>?_;refine ae (aa (wp_block ?_));refine bz Y Z [7,0,1] (fun (j:Nat)=>[(8,.int .i64 j)]) (fun (j:Nat)=>j≤l.length∧zQ p l 0=zQ p (l.drop j) j) (fun (j:Nat) L=>L) (fun (j:Nat)=>l.length-j) (0) (⟨Nat.zero_le _,rfl⟩) ⟨rfl,rfl,rfl,rfl,trivial⟩ (Z) ?_;intro j _ _ hF0 Y Z;refine ab (ah ?_);refine sv Y (bq (Y.ev rfl) (Y.ev rfl)) fun _ Y=>?_;refine ae (aa (ab ?_));refine aB (Y.ev rfl) (fun hc0=>?_) (fun hc0=>?_)
 ·
  have hlt:j<l.length:=by have:=of_decide_eq_true hc0;omega
  obtain⟨b,o,rfl,hB,_⟩:=hr.opened (aR aJ (by decide) (by omega));have hd:l.drop j=l[j]::l.drop (j+1):=List.drop_eq_getElem_cons hlt;refine wp_skip (aa (ab (wp_block (ab (ah ?_)))));refine mv Y rfl rfl fun _ Y=>?_;refine ma Y rfl rfl fun _ Y=>?_;refine cm ?_;refine mv Y rfl rfl fun _ Y=>?_;refine mv Y rfl rfl fun _ Y=>?_;refine mv Y rfl rfl fun _ Y=>?_;refine sv Y (aC (i:=j) (sz:=14) Tryz.underlying41 (by kernel_rfl) (Y.ev rfl) (Y.ev rfl) (by omega) (by omega) rfl) fun _ Y=>?_;refine sv (v:=fS l[j]) Y (ay (by kernel_rfl) (by kernel_rfl) (Y.ev rfl) (a7 aJ (Z.rd0 hr) hlt)) fun _ Y=>?_;refine aS Y (wn rfl) (dx hfc (Y.ev rfl) (Y.evs rfl) rfl) rfl rfl Z (hcl _ Z.below j hlt) fun _ _ Y Z=>?_;refine ae (aa ?_);refine aB (Y.ev rfl) (fun hc1=>?_) (fun hc1=>?_)
  ·
   refine ab (ah ?_);refine mv Y rfl rfl fun _ Y=>?_;refine ma Y rfl rfl fun _ Y=>?_;refine ae (aa (wp_ret (az (ai (ai (az (ai ?_)))))));refine bm Y rfl rfl ?_;exact⟨by rw[hF0.2,hd,zQ,if_pos hc1],Z.below⟩
  ·
   refine wp_skip (aO (aa (ah ?_)));refine sv Y (aV (Y.ev rfl) (Y.ev rfl) (by omega)) fun _ Y=>?_;refine mv Y rfl rfl fun _ Y=>?_;refine ae (aa ?_);exact⟨j+1,by omega,⟨hlt,by rw[hF0.2,hd,zQ,if_neg (by rw[hc1];decide)]⟩,Y.re ⟨rfl,rfl,rfl,rfl,trivial⟩,Z⟩
 ·
  have hge:l.length≤j:=by have:=of_decide_eq_false hc0;omega
  refine wp_exit ?_;refine av ?_;refine av ?_;refine bn ?_;refine aa (ab (ah ?_));refine ma Y rfl rfl fun _ Y=>?_;refine ae (aa (wp_ret ?_));refine bm Y rfl rfl ?_;exact⟨by rw[hF0.2,List.drop_of_length_le hge];rfl,Z.below⟩
theorem nc (p:Rcd→Bool) (l:List Rcd) (A:Option Addr) (c:Nat) (f:FuncId) (cap:List Value) (w:World) (hr:Rd w w.heap.size A (l.flatMap cg)) (hlen:l.length≤1000) (hfc:∀(vs:Array Value) (W:World),(callFunc f vs).run Tryz.prog W=.ok (.enter f vs) W)
 (hcl:∀X,Below w.heap.size w X→∀(k:Nat) (hk:k<l.length),Calls Tryz.prog f ([fS l[k]] ++ cap).toArray X fun e X'=>e=.returned (.bool (p l[k]))∧Below X.heap.size X X') :
 Calls Tryz.prog 93 #[.slice A l.length c,.func (.func f) #[] cap.toArray] w fun e w'=>e=.returned (.bool (l.any p))∧Below w.heap.size w w':=by
 refine aF (N:=9) Tryz.func93 rfl rfl rfl (fun _ Y=>?_);have Z:=St.init w;refine ab (ah ?_);refine ma Y rfl rfl fun _ Y=>?_;refine cm ?_;refine mv Y rfl rfl fun _ Y=>?_;refine mv Y rfl rfl fun _ Y=>?_;refine aS Y (wn rfl) (aq (fun _ _=>by kernel_rfl) (Y.evs rfl) rfl) rfl rfl Z (rU p l A c f cap _ (Z.rd0 hr) hlen hfc (fun X hX k hk=>hcl X (ar Z.below hX) k hk)) fun _ _ Y Z=>?_;refine sv Y (jx (Y.ev rfl) (Y.ev rfl)) fun _ Y=>?_;refine ma Y rfl rfl fun _ Y=>?_;refine ae (aa (wp_ret ?_));refine bm Y rfl rfl ?_;exact⟨by rw[←sW p l 0],Z.below⟩
theorem tR (x y:Rcd) (b:Nat) (T:TypeId) (w:World) (hb:Box w b (fS x).cells T) :
 Calls Tryz.prog 94 #[fS y,.pointer (some ⟨b,0,none⟩)] w fun e w'=>e=.returned (.bool (jt y.e x.e.t))∧Below w.heap.size w w':=by
 refine aF (N:=23) Tryz.func94 rfl rfl rfl (fun _ h0=>?_);have S0:=St.init w;refine ab (ah ?_);refine nb h0 rfl rfl S0 fun b2 _ _ gb2 h1 S1=>?_;refine ma h1 rfl rfl fun _ h2=>?_;refine cm ?_;refine vf h2 1 1 rfl rfl rfl fun _ h3=>?_;refine vf h3 1 2 rfl rfl rfl fun _ h4=>?_;refine vl h4 S1 0 rfl rfl rfl rfl fun _ h5=>?_;refine sv h5 (aj (off:=1) (by kernel_rfl) (h5.ev rfl) rfl) fun _ h6=>?_;refine sv h6 (aj (off:=1) (by kernel_rfl) (h6.ev rfl) rfl) fun _ h7=>?_;refine sv h7 (aw (by kernel_rfl) (h7.ev rfl) (Box.cells (hb.below S1.below) 2)) fun _ h8=>?_;refine sv h8 (aX (h8.ev rfl) (h8.ev rfl)) fun _ h9=>?_;refine mv h9 rfl rfl fun _ h10=>?_;apply cq (x:=(y.e.k==2||y.e.k==4)) h10 S1 11 rfl 11 22
 case ht=>
  intro gc11;refine sy h10 rfl rfl rfl gc11 (aj (off:=1) (j:=1) (by kernel_rfl) (h10.ev rfl) rfl) rfl rfl fun _ h11=>?_;refine sy h11 rfl rfl rfl gc11 (aj (off:=0) (j:=1) (by kernel_rfl) (h11.ev rfl) rfl) rfl rfl fun _ h12=>?_;refine sy h12 rfl rfl rfl gc11 (aw (by kernel_rfl) (h12.ev rfl) (S1.cell (i:=0) rfl rfl)) rfl rfl fun _ h13=>?_;refine sy h13 rfl rfl rfl gc11 (aX (h13.ev rfl) (h13.ev rfl)) rfl rfl fun _ h14=>?_;refine sy h14 rfl rfl rfl gc11 (ak (h14.ev rfl)) rfl rfl fun _ h15=>?_;apply dw (x:=y.e.k==4) h15 S1 16 rfl 5 21
  case hf=>
   intro gc16;refine sy h15 rfl rfl rfl gc16 (aj (off:=1) (j:=1) (by kernel_rfl) (h15.ev rfl) rfl) rfl rfl fun _ h16=>?_;refine sy h16 rfl rfl rfl gc16 (aj (off:=0) (j:=1) (by kernel_rfl) (h16.ev rfl) rfl) rfl rfl fun _ h17=>?_;refine sy h17 rfl rfl rfl gc16 (aw (by kernel_rfl) (h17.ev rfl) (S1.cell (i:=0) rfl rfl)) rfl rfl fun _ h18=>?_;refine sy h18 rfl rfl rfl gc16 (aX (h18.ev rfl) (h18.ev rfl)) rfl rfl fun _ h19=>?_;refine sy h19 rfl rfl rfl gc11 (aD (h19.ev rfl) gc16 (h19.ev rfl)) rfl rfl fun _ h20=>?_;exact ae ⟨h20.mid (m:=[(_,_),(_,_),(_,_),(_,_)]) rfl,S1⟩
  case ht=>
   intro gc16;refine no h15 rfl rfl rfl gc16 rfl rfl fun _ h21=>?_;refine no h21 rfl rfl rfl gc16 rfl rfl fun _ h22=>?_;refine no h22 rfl rfl rfl gc16 rfl rfl fun _ h23=>?_;refine no h23 rfl rfl rfl gc16 rfl rfl fun _ h24=>?_;refine sy h24 rfl rfl rfl gc11 (aA (h24.ev rfl) gc16 (h24.ev rfl)) rfl rfl fun _ h25=>?_;exact ae ⟨h25.mid (m:=[(_,_),(_,_),(_,_),(_,_)]) rfl,S1⟩
  case h=>
   rintro a26 X26 ⟨h26,S26⟩
   refine sv h26 (aA (h26.ev rfl) gc11 (h26.ev rfl)) fun _ h27=>?_;exact ae ⟨h27.mid (m:=[(_,_),(_,_),(_,_),(_,_),(_,_),(_,_)]) rfl,S26⟩
 case hf=>
  intro gc11;refine no h10 rfl rfl rfl gc11 rfl rfl fun _ h28=>?_;refine no h28 rfl rfl rfl gc11 rfl rfl fun _ h29=>?_;refine no h29 rfl rfl rfl gc11 rfl rfl fun _ h30=>?_;refine no h30 rfl rfl rfl gc11 rfl rfl fun _ h31=>?_;refine no h31 rfl rfl rfl gc11 rfl rfl fun _ h32=>?_;refine ec h32 (bH h32 _ rfl rfl rfl) rfl rfl fun _ h33=>?_;refine ec h33 (bH h33 _ rfl rfl rfl) rfl rfl fun _ h34=>?_;refine ec h34 (bH h34 _ rfl rfl rfl) rfl rfl fun _ h35=>?_;refine ec h35 (bH h35 _ rfl rfl rfl) rfl rfl fun _ h36=>?_;refine no h36 rfl rfl rfl gc11 rfl rfl fun _ h37=>?_;refine sv h37 (aD (h37.ev rfl) gc11 (h37.ev rfl)) fun _ h38=>?_;exact ae ⟨h38.mid (m:=[(_,_),(_,_),(_,_),(_,_),(_,_),(_,_),(_,_),(_,_),(_,_),(_,_)]) rfl,S1⟩
 case h=>
  rintro a39 X39 ⟨h39,S39⟩
  refine ma h39 rfl rfl fun _ h40=>?_;refine ae (aa (wp_ret ?_));refine bm h40 rfl rfl ?_;exact⟨rfl,S39.below⟩
theorem jr {p:ByteArray} {x:Op} (hp:p.size=512) (h:(bQ p x).2=0):(bQ p x).1.size=512:=by
 unfold bQ at h ⊢
 split at h
 · rename_i h1;exact absurd h h1
 · rename_i h1
   rw[if_neg h1]
   split at h
   · rename_i h2;rw[if_pos h2];exact gI hp ((eG x).1 (by simpa using h1))
   · cases h
def ln (l:List Rcd) (p:List Pgp):Int:=aP [(dI l).2,fK l p]
def fi (l:List Rcd) (p:List Pgp):List Pgp × Int × Int:=if ln l p≠0 then ([],0,ln l p) else ff p 0 l
theorem je (l:List Rcd) (B:Option Addr) (d:Nat) (p:List Pgp) (A:Option Addr) (c:Nat) (w:World)
 (hr:Rd w w.heap.size A (p.flatMap ca)) (hq:Rd w w.heap.size B (l.flatMap cg)) (hl:l.length≤1000) (hc:l.length≤d) (hpl:p.length≤1000) (hF:FolT w) (hx:∀x∈l,FewE x.e∧I6 x.e.g) :
 Calls Tryz.prog 38 #[.slice B l.length d,.slice A p.length c] w fun e w'=>∃i:Option Addr × Nat,e=.returned (.tuple #[.slice i.1 (fi l p).1.length i.2,.int .i64 (fi l p).2.1,.int .i64 (fi l p).2.2]) ∧
  St [] w w' [.row (.slice i.1 (fi l p).1.length i.2) (fi l p).1.length 111 3 ((fi l p).1.flatMap ca)]:=by
 refine aF (N:=93) Tryz.func38 rfl rfl rfl (fun _ h0=>?_);have S0:=St.init w;refine ab (ah ?_);refine ma h0 rfl rfl fun _ h1=>?_;refine ma h1 rfl rfl fun _ h2=>?_;refine ma h2 rfl rfl fun _ h3=>?_;refine ae (aa (ab (ab (ah ?_))));refine mv h3 rfl rfl fun _ h4=>?_;refine aS h4 (wn rfl) (aq (fun _ _=>by kernel_rfl) (h4.evs rfl) rfl) rfl rfl S0 (dP l B d _ (S0.rd0 hq) hl hc (hF.below S0.below) (fun x hm=>(hx x hm).1)) fun _ _ h5 S5=>?_;refine mv h5 rfl rfl fun _ h6=>?_;refine mv h6 rfl rfl fun _ h7=>?_;refine aS h7 (wn rfl) (aq (fun _ _=>by kernel_rfl) (h7.evs rfl) rfl) rfl rfl S5 (iH p l A c B d _ (S5.rd0 hr) (S5.rd0 hq) hl (fun x hm=>(hx x hm).2)) fun _ _ h8 S8=>?_;refine dr h8 (wn rfl) (f:=fun b=>.slice (some ⟨b,0,none⟩) 2 2) (cj Tryz.underlying214 (by kernel_rfl) (by kernel_rfl) (h8.evs2 rfl) rfl rfl rfl (by decide) (by decide)) rfl rfl S8 fun b21 _ _ gb21 h9 S9=>?_;refine bD h9 (wn rfl) (aq (fun _ _=>by kernel_rfl) (h9.evs rfl) rfl) rfl rfl (dC (S9.at_ (i:=0) rfl)) fun _ h10=>?_;refine ma h10 rfl rfl fun _ h11=>?_;refine cm ?_;refine mv h11 rfl rfl fun _ h12=>?_;refine sv h12 (a8 (h12.ev rfl) (h12.ev rfl)) fun _ h13=>?_;refine ae (aa ?_);refine aB (h13.ev rfl) (fun hc0=>?_) (fun hc0=>?_)
 ·
  have hne:ln l p≠0:=by unfold ln;simpa using hc0
  have e1:fi l p=([],0,ln l p):=by unfold fi;rw[if_pos hne]
  refine ab (ah ?_);refine mv h13 rfl rfl fun _ h14=>?_;refine ma h14 rfl rfl fun _ h15=>?_;refine ma h15 rfl rfl fun _ h16=>?_;refine ma h16 rfl rfl fun _ h17=>?_;refine ae (aa (wp_ret (ai ?_)));refine ql h17 rfl rfl rfl rfl ?_;refine⟨(none,0),by rw[e1];rfl,?_⟩;rw[e1];exact(S9.sub (List.nil_sublist _)).nilRow 111 3
 ·
  have hz:ln l p=0:=by unfold ln;simpa using hc0
  have e1:fi l p=ff p 0 l:=by unfold fi;rw[if_neg (fun h=>h hz)]
  have hz2:=hz;unfold ln at hz2;rw[bw] at hz2;obtain⟨g1,g2⟩:=sO (hz2 (fK l p) (by simp));have hvl:=(j9 (hz2 (dI l).2 (by simp))).2;refine wp_skip (aa (ab (ah ?_)));refine mv h13 rfl rfl fun _ h18=>?_;refine gV h18 (wn rfl) (aq (fun _ _=>by kernel_rfl) (h18.evs rfl) rfl) rfl rfl S9 (mc p A c _ (S9.rd0 hr) hpl) (Nat.le_refl _) fun A27 c27 _ _ h19 S19=>?_;refine ma h19 rfl rfl fun _ h20=>?_;refine cm ?_;refine ma h20 rfl rfl fun _ h21=>?_;refine ae (aa (ab (ab (ah ?_))));refine mv h21 rfl rfl fun _ h22=>?_;refine sv h22 (bf Tryz.underlying41 (h22.ev rfl)) fun _ h23=>?_;refine mv h23 rfl rfl fun _ h24=>?_;refine ae (aa (wp_block ?_));refine bz h24 S19 [29,28,8,0] (fun (q:RdoS)=>[(30,.int .i64 q.j),(9,.int .i64 q.n)]) (fun (q:RdoS)=>q.j≤l.length∧ff p 0 l=ff q.p q.n (l.drop q.j)∧PgsOk q.p∧q.p.length=p.length∧0≤q.n∧q.n≤q.j∧(∀x∈l,eL q.p x=0)) (fun q L=>L.set 0 (.row (.slice A27 p.length c27) p.length 111 3 (q.p.flatMap ca))) (fun (q:RdoS)=>l.length-q.j) (⟨0,p,0⟩) (⟨Nat.zero_le _,rfl,g1,rfl,Int.le_refl 0,Int.le_refl 0,g2⟩) ⟨rfl,rfl,rfl,rfl,rfl,rfl,trivial⟩ (S19) ?_;intro q _ _ hF0 h25 S25;refine ab (ah ?_);refine sv h25 (bq (h25.ev rfl) (h25.ev rfl)) fun _ h26=>?_;refine ae (aa (ab ?_));refine aB (h26.ev rfl) (fun hc1=>?_) (fun hc1=>?_)
  ·
   have hlt:q.j<l.length:=by have:=of_decide_eq_true hc1;omega
   obtain⟨b5,o5,rfl,hB5,_⟩:=hq.opened (aR aJ (by decide) (by omega));have hdr:l.drop q.j=l[q.j]::l.drop (q.j+1):=List.drop_eq_getElem_cons hlt;obtain⟨hxe,hxg⟩:=hx _ (List.getElem_mem hlt);obtain⟨-,hun,hpo,hple,hn0,hnj,hfo⟩:=hF0;rw[hdr,ff] at hun
   have hkk:∀x∈q.p,0≤x.g∧x.g≤600:=fun x hx=>by
    obtain⟨k,hk,rfl⟩:=List.getElem_of_mem hx;exact(hpo.all k hk).g
   have hlx:=hvl.e0 hlt;have hrl:(l.drop (q.j+1)).length=l.length-(q.j+1):=List.length_drop ..
   have hrdJ:Rd w w.heap.size (some ⟨b5,eV o5 d (q.j+1) 14,none⟩) ((l.drop (q.j+1)).flatMap cg):=by
    rcases Nat.lt_or_ge (q.j+1) l.length with h | h
    · rw[lB (by omega)];exact hq.dropF aJ (q.j+1)
    · rw[List.drop_of_length_le h];exact Rd.nil _ _ _
   refine wp_skip (aa (ab (wp_block (ab (ah ?_)))));refine mv h26 rfl rfl fun _ h27=>?_;refine sv h27 (aC (i:=q.j) (sz:=14) Tryz.underlying41 (by kernel_rfl) (h27.ev rfl) (h27.ev rfl) (by omega) (by omega) rfl) fun _ h28=>?_;refine sv (v:=fS l[q.j]) h28 (ay (by kernel_rfl) (by kernel_rfl) (h28.ev rfl) (a7 aJ (S25.rd0 hq) hlt)) fun _ h29=>?_;refine na (.agg #[.int .i64 0,.int .i64 0,.int .i64 0,.int .i64 0,.int .i64 0,.int .i64 0,.bool false,.int .i64 0,.int .i64 0,.int .i64 0,.int .i64 0,.string ⟨#[]⟩,.string ⟨#[]⟩,.string ⟨#[]⟩]) h29 rfl S25 fun b11 _ _ gb11 h30 S30=>?_;refine ma h30 rfl rfl fun _ h31=>?_;refine aG h31 (wn rfl) ⟨rfl,rfl⟩ (h31.ev rfl) (h31.ev rfl) rfl (by kernel_rfl) S30 (i:=0) rfl rfl rfl fun _ S32=>?_;refine cm ?_;refine mv h31 rfl rfl fun _ h33=>?_;refine mv h33 rfl rfl fun _ h34=>?_;refine sv h34 (aV (h34.ev rfl) (h34.ev rfl) (by omega)) fun _ h35=>?_;refine sv h35 (fy (l:=q.j+1) (h:=l.length) (sz:=14) Tryz.underlying41 (by kernel_rfl) (h35.ev rfl) (h35.ev rfl) rfl (by omega) (by omega)) fun _ h36=>?_;refine sv h36 (gi (h36.evs rfl) (h36.evs rfl)) fun _ h37=>?_;refine aS h37 (wn rfl) (aq (fun _ _=>by kernel_rfl) (h37.evs rfl) rfl) rfl rfl S32 (hrl▸nc (fun y=>jt y.e l[q.j].e.t) (l.drop (q.j+1)) _ (d-(q.j+1)) 94 [.pointer (some ⟨b11,0,none⟩)] _ (S32.rd0 hrdJ) (by omega) (fun _ _=>by kernel_rfl) (fun X hX k hk=>tR l[q.j] _ b11 _ X (Box.below (S32.at_ (i:=0) rfl) hX))) fun _ _ h38 S38=>?_;refine ma h38 rfl rfl fun _ h39=>?_;refine ae (aa (ab (ab (ah ?_))));refine vf h39 1 1 rfl rfl rfl fun _ h40=>?_;refine sv (v:=dz l[q.j].e) h40 (ay (by kernel_rfl) (by kernel_rfl) (h40.ev rfl) (S38.cellsOf (i:=0) rfl 1 13)) fun _ h41=>?_;refine aS h41 (wn rfl) (aq (fun _ _=>by kernel_rfl) (h41.evs rfl) rfl) rfl rfl S38 (fO _ _) fun _ _ h42 S42=>?_
   refine sv h42 (bL (h42.ev rfl)) fun _ h43=>?_;refine mv h43 rfl rfl fun _ h44=>?_;apply dw (x:=!(iK (l.drop (q.j+1)) l[q.j].e.t)) h44 S42 45 rfl 3 48
   case hf=>
    intro gc45;refine sy h44 rfl rfl rfl gc45 (ak (h44.ev rfl)) rfl rfl fun _ h45=>?_;refine sy h45 rfl rfl rfl gc45 (bL (h45.ev rfl)) rfl rfl fun _ h46=>?_;refine sv h46 (aD (h46.ev rfl) gc45 (h46.ev rfl)) fun _ h47=>?_;exact ae ⟨h47.mid (m:=[(_,_),(_,_)]) rfl,S42⟩
   case ht=>
    intro gc45;refine no h44 rfl rfl rfl gc45 rfl rfl fun _ h48=>?_;refine no h48 rfl rfl rfl gc45 rfl rfl fun _ h49=>?_;refine sv h49 (aA (h49.ev rfl) gc45 (h49.ev rfl)) fun _ h50=>?_;exact ae ⟨h50.mid (m:=[(_,_),(_,_)]) rfl,S42⟩
   case h=>
    rintro a51 X51 ⟨h51,S51⟩
    refine ae (aa ?_);refine aB (h51.ev rfl) (fun hc2=>?_) (fun hc2=>?_)
    ·
     have hno:¬(cd l[q.j].e&&iK (l.drop (q.j+1)) l[q.j].e.t)=true:=fun h=>by
      obtain⟨u1,u2⟩:=Bool.and_eq_true_iff.1 h;rw[u1,u2] at hc2;cases hc2
     rw[if_neg hno] at hun;refine wp_exit ?_;refine av ?_;refine bn ?_;refine aa (ah ?_);refine sv h51 (aV (h51.ev rfl) (h51.ev rfl) (by omega)) fun _ h52=>?_;refine mv h52 rfl rfl fun _ h53=>?_;refine ae (aa ?_);exact⟨⟨q.j+1,q.p,q.n⟩,(by show l.length-(q.j+1)<l.length-q.j;omega),⟨hlt,hun,hpo,hple,hn0,by show q.n≤((q.j+1:Nat):Int);omega,hfo⟩,h53.re ⟨rfl,rfl,rfl,rfl,rfl,rfl,trivial⟩,S51.sub (.cons _ (.cons_cons _ (.cons_cons _ .slnil)))⟩
    ·
     obtain⟨u1,u2⟩:=Bool.or_eq_false_iff.1 hc2
     have hyes:(cd l[q.j].e&&iK (l.drop (q.j+1)) l[q.j].e.t)=true:=by rw[Bool.and_eq_true];exact⟨by simpa using u1,by simpa using u2⟩
     rw[if_pos hyes] at hun;obtain⟨qq,hqq,hqf⟩:=pA (hfo _ (List.getElem_mem hlt)) (by simpa using u1);refine wp_skip (aa (ab (ah ?_)));refine mv h51 rfl rfl fun _ h54=>?_;refine vf h54 1 1 rfl rfl rfl fun _ h55=>?_;refine vf h55 4 5 rfl rfl rfl fun _ h56=>?_;refine vl h56 S51 0 rfl rfl rfl rfl fun _ h57=>?_;refine aS h57 (wn rfl) (aq (fun _ _=>by kernel_rfl) (h57.evs rfl) rfl) rfl rfl S51 (hple▸sj q.p hpo.srt hkk A27 c27 l[q.j].e.g hxg _ (S51.rdOf (i:=1) rfl) (by have:=hpo.n;omega)) fun _ _ h58 S58=>?_;refine ma h58 rfl rfl fun _ h59=>?_;obtain⟨b',o',rfl,qk,q1,q2,q3⟩:=mF hpo.srt (S58.rdOf (i:=1) rfl) (od hpo.srt (S58.rdOf (i:=1) rfl) hqq);obtain rfl:o'=0:=pw (S58.at_ (i:=1) rfl);rw[Nat.zero_add] at q3;generalize iu Pgp.g q.p l[q.j].e.g=k at qk q1 q2 q3
     have hq9:qq=q.p[k]:=by rw[q2] at hqq;injection hqq with e;exact e.symm
     subst hq9;rw[q2] at hun;simp only[] at hun;have h512:=(hpo.all k qk).b
     have hone:iG q.p[k].b l[q.j].e.o=(bQ q.p[k].b l[q.j].e.o):=by unfold iG;rw[if_neg (fun h=>h (by unfold cy;rw[h512];rfl))]
     refine ae (aa (ab ?_));apply bA h59 [false,false,false,false,false,false,false,false,false,false,false,false] _ (by kernel_rfl)
     case h=>
      refine qv h59 (fun X hX=>bb (v':=.pointer (some ⟨b',k*3,none⟩)) (congrArg Value.pointer q3) (ak (h59.ev rfl))) fun _ h60=>?_;refine qv h60 (fun X hX=>bo (h60.ev rfl)) fun _ h61=>?_;refine qv h61 (fun X hX=>aj (off:=2) (by kernel_rfl) (h61.ev rfl) rfl) fun _ h62=>?_;refine qv h62 (fun X hX=>aw (by kernel_rfl) (h62.ev rfl) (by have:=(a7 bc ((S58.grow hX).rdOf (i:=1) rfl) qk) 2 _ rfl;rw[Nat.zero_add] at this;exact this)) fun _ h63=>?_;refine qv h63 (fun X hX=>aj (off:=1) (j:=1) (by kernel_rfl) (h63.ev rfl) rfl) fun _ h64=>?_;refine qv h64 (fun X hX=>aj (off:=6) (j:=7) (by kernel_rfl) (h64.ev rfl) rfl) fun _ h65=>?_;refine qv (v:=eQ l[q.j].e.o) h65 (fun X hX=>ay (by kernel_rfl) (by kernel_rfl) (h65.ev rfl) ((S58.grow hX).cellsOf (i:=0) rfl 7 6)) fun _ h66=>?_;refine df h66 (wn rfl) rfl rfl (fun X=>(aq (fun _ _=>by kernel_rfl) (h66.evs rfl) rfl)) (fun X hX=>qu q.p[k].b l[q.j].e.o _ (by rw[h512];decide) hxe.o hxe.n) fun _ h67=>?_;refine qv h67 (fun X hX=>ak (h67.ev rfl)) fun _ h68=>?_;refine qv h68 (fun X hX=>bG (h68.ev rfl) rfl) fun _ h69=>?_;refine qv h69 (fun X hX=>bG (h69.ev rfl) rfl) fun _ h70=>?_;refine qv h70 (fun X hX=>fx (h70.ev rfl)) fun _ h71=>?_;refine aI ?_;refine bF fun _ hX72 hΦ72=>?_;have S72:=S58.grow hX72;refine ma h71 rfl rfl fun _ h73=>?_;rw[hone] at h73;obtain⟨S9,hS9⟩:∃S9,S9=if ((bQ q.p[k].b l[q.j].e.o).2==0&&!q.p[k].f)=true then rP (bQ q.p[k].b l[q.j].e.o).1 l[q.j].l else (bQ q.p[k].b l[q.j].e.o).1:=⟨_,rfl⟩;refine ae (aa (ab (ab (ah ?_))));refine mv h73 rfl rfl fun _ h74=>?_;refine sv h74 (aX (h74.ev rfl) (h74.ev rfl)) fun _ h75=>?_;refine mv h75 rfl rfl fun _ h76=>?_;apply cq (x:=!q.p[k].f) h76 S72 67 rfl 6 73
      case ht=>
       intro gc67;refine sy h76 rfl rfl rfl gc67 (bb (v':=.pointer (some ⟨b',k*3,none⟩)) (congrArg Value.pointer q3) (ak (h76.ev rfl))) rfl rfl fun _ h77=>?_;refine sy h77 rfl rfl rfl gc67 (bo (h77.ev rfl)) rfl rfl fun _ h78=>?_;refine sy h78 rfl rfl rfl gc67 (aj (off:=1) (by kernel_rfl) (h78.ev rfl) rfl) rfl rfl fun _ h79=>?_;refine sy h79 rfl rfl rfl gc67 (aw (by kernel_rfl) (h79.ev rfl) (by have:=(a7 bc (S72.rdOf (i:=1) rfl) qk) 1 _ rfl;rw[Nat.zero_add] at this;exact this)) rfl rfl fun _ h80=>?_;refine sy h80 rfl rfl rfl gc67 (bL (h80.ev rfl)) rfl rfl fun _ h81=>?_;refine sv h81 (aA (h81.ev rfl) gc67 (h81.ev rfl)) fun _ h82=>?_;exact ae ⟨h82.mid (m:=[(_,_),(_,_),(_,_),(_,_),(_,_)]) rfl,S72⟩
      case hf=>
       intro gc67;refine no h76 rfl rfl rfl gc67 rfl rfl fun _ h83=>?_;refine no h83 rfl rfl rfl gc67 rfl rfl fun _ h84=>?_;refine no h84 rfl rfl rfl gc67 rfl rfl fun _ h85=>?_;refine no h85 rfl rfl rfl gc67 rfl rfl fun _ h86=>?_;refine no h86 rfl rfl rfl gc67 rfl rfl fun _ h87=>?_;refine sv h87 (aD (h87.ev rfl) gc67 (h87.ev rfl)) fun _ h88=>?_;exact ae ⟨h88.mid (m:=[(_,_),(_,_),(_,_),(_,_),(_,_)]) rfl,S72⟩
      case h=>
       rintro a89 X89 ⟨h89,S89⟩
       refine ae (aa ?_);refine eH h89 S89 [(14,.string S9),(15,.int .i64 (bQ q.p[k].b l[q.j].e.o).2)] [73,67,66,65,64,63,54,62,61,60,59,58,57,56,55,13,53,52,51,50,49,48,45,44,43,42,41,12,40,39,38,37,36,35,10,11,34,33,32,31,30,9,29,28,8,0] ?_ (fun _ _ h90 S90=>?_)
       ·
        refine aB (h89.ev rfl) (fun hc3=>?_) (fun hc3=>?_)
        ·
         have hT0:(bQ q.p[k].b l[q.j].e.o).2=0:=by simpa using (Bool.and_eq_true_iff.1 hc3).1
         have hT5:=jr h512 hT0
         have hw0:Aw (bQ q.p[k].b l[q.j].e.o).1 l[q.j].l=0:=by
          unfold Aw;rw[bw];simp only[List.mem_cons,List.not_mem_nil,or_false,forall_eq_or_imp,forall_eq];exact⟨by unfold cy;rw[hT5];rfl,(bC (by decide)).2 (inB_true.2 ⟨by omega,by omega⟩)⟩
         refine ah ?_;refine mv h89 rfl rfl fun _ h91=>?_;refine vf h91 0 0 rfl rfl rfl fun _ h92=>?_;refine vl h92 S89 0 rfl rfl rfl rfl fun _ h93=>?_;refine aS h93 (wn rfl) (aq (fun _ _=>by kernel_rfl) (h93.evs rfl) rfl) rfl rfl S89 (pN (bQ q.p[k].b l[q.j].e.o).1 l[q.j].l _ (by rw[hT5];decide)) fun _ _ h94 S94=>?_;refine mv h94 rfl rfl fun _ h95=>?_;refine vx h95 rfl rfl rfl fun _ h96=>?_;refine vx h96 rfl rfl rfl fun _ h97=>?_;refine ma h97 rfl rfl fun _ h98=>?_;refine ma h98 rfl rfl fun _ h99=>?_;refine ae (aa ?_);rw[show(if Aw (bQ q.p[k].b l[q.j].e.o).1 l[q.j].l=0 then zN (bQ q.p[k].b l[q.j].e.o).1 l[q.j].l else ⟨#[]⟩)=S9 by rw[hS9,if_pos hw0,if_pos hc3];rfl,show Aw (bQ q.p[k].b l[q.j].e.o).1 l[q.j].l=(bQ q.p[k].b l[q.j].e.o).2 by rw[hw0,hT0]] at h99;exact⟨h99.re ⟨rfl,rfl,rfl,rfl,rfl,rfl,rfl,rfl,rfl,rfl,rfl,rfl,rfl,rfl,rfl,rfl,rfl,rfl,rfl,rfl,rfl,rfl,rfl,rfl,rfl,rfl,rfl,rfl,rfl,rfl,rfl,rfl,rfl,rfl,rfl,rfl,rfl,rfl,rfl,rfl,rfl,rfl,rfl,rfl,rfl,rfl,rfl,rfl,trivial⟩,S94⟩
        ·
         refine wp_skip (aa ?_);replace h89:=Has.also h89 (t:=14) (v:=.string S9) ((show look _ 14=some (.string (bQ q.p[k].b l[q.j].e.o).1) from rfl).trans (by rw[hS9,if_neg (by rw[hc3];decide)]));exact⟨h89.re ⟨rfl,rfl,rfl,rfl,rfl,rfl,rfl,rfl,rfl,rfl,rfl,rfl,rfl,rfl,rfl,rfl,rfl,rfl,rfl,rfl,rfl,rfl,rfl,rfl,rfl,rfl,rfl,rfl,rfl,rfl,rfl,rfl,rfl,rfl,rfl,rfl,rfl,rfl,rfl,rfl,rfl,rfl,rfl,rfl,rfl,rfl,rfl,rfl,trivial⟩,S89⟩
       ·
        refine aa (ab (ab (ah ?_)));refine mv h90 rfl rfl fun _ h100=>?_;refine sv h100 (a8 (h100.ev rfl) (h100.ev rfl)) fun _ h101=>?_;refine ae (aa ?_);refine aB (h101.ev rfl) (fun hc4=>?_) (fun hc4=>?_)
        ·
         have he:(bQ q.p[k].b l[q.j].e.o).2≠0:=by simpa using hc4
         rw[if_pos he] at hun;refine ab (ah ?_);refine mv h101 rfl rfl fun _ h102=>?_;refine ma h102 rfl rfl fun _ h103=>?_;refine ma h103 rfl rfl fun _ h104=>?_;refine ma h104 rfl rfl fun _ h105=>?_;refine ae (aa (wp_ret (ai (az (ai (ai (az (ai ?_))))))));refine ql h105 rfl rfl rfl rfl ?_;refine⟨(none,0),by rw[e1,hun];(try rfl),?_⟩;rw[e1,hun];exact(S90.sub (List.nil_sublist _)).nilRow 111 3
        ·
         have he:(bQ q.p[k].b l[q.j].e.o).2=0:=by simpa using hc4
         rw[if_neg (fun h=>h he)] at hun
         have hmk:Ag q.p[k] (bQ q.p[k].b l[q.j].e.o).1 l[q.j].l=S9:=by
          rw[hS9,he];unfold Ag
          cases q.p[k].f<;>rfl
         have hT5:=jr h512 he
         have hs5:S9.size=512:=by
          rw[hS9]
          split
          · exact kq hT5
          · exact hT5
         rw[hmk] at hun;have hpo2:=oZ hpo l[q.j].e.g S9 hs5;have hfl:=ki hpo.srt qk S9;rw[q1] at hfl;refine wp_skip (aa (ab (ah ?_)));refine sv h101 (bb (v':=.pointer (some ⟨b',k*3,none⟩)) (congrArg Value.pointer q3) (ak (h101.ev rfl))) fun _ h106=>?_;refine mv h106 rfl rfl fun _ h107=>?_;refine sv h107 (bo (h107.ev rfl)) fun _ h108=>?_;refine sv h108 (aj (off:=2) (by kernel_rfl) (h108.ev rfl) rfl) fun _ h109=>?_;refine kj h109 (wn rfl) ⟨rfl,rfl⟩ (h109.ev rfl) (h109.ev rfl) rfl (by kernel_rfl) S90 (i:=1) rfl rfl (by show k*3+2+1≤p.length*3;omega) fun _ S110=>?_;refine ae (aa (ah ?_));refine mv h109 rfl rfl fun _ h111=>?_;refine sv h111 (aV (h111.ev rfl) (h111.ev rfl) (by omega)) fun _ h112=>?_;refine ma h112 rfl rfl fun _ h113=>?_;refine ae (aO (aa (ah ?_)));refine sv h113 (aV (h113.ev rfl) (h113.ev rfl) (by omega)) fun _ h114=>?_;refine mv h114 rfl rfl fun _ h115=>?_;refine ae (aa ?_);exact⟨⟨q.j+1,fG q.p l[q.j].e.g S9,q.n+1⟩,(by show l.length-(q.j+1)<l.length-q.j;omega),⟨hlt,hun,hpo2,by rw[ee];exact hple,by show 0≤q.n+1;omega,by show q.n+1≤((q.j+1:Nat):Int);omega,fun x hx=>by rw[iX];exact hfo x hx⟩,h115.re ⟨rfl,rfl,rfl,rfl,rfl,rfl,trivial⟩,(by show St _ w _ [.row _ _ _ _ ((fG q.p l[q.j].e.g S9).flatMap ca),_];rw[hfl];exact(S110.sub (.cons _ (.cons_cons _ (.cons_cons _ .slnil)))))⟩
     case hB=>kernel_rfl
     case hst=>rfl
  ·
   have hge:l.length≤q.j:=by have:=of_decide_eq_false hc1;omega
   obtain⟨-,hun,hpo,hple,-,-,-⟩:=hF0;rw[List.drop_of_length_le hge,ff] at hun;refine wp_exit ?_;refine av ?_;refine av ?_;refine bn ?_;refine aa (ab (ah ?_));refine mv h26 rfl rfl fun _ h116=>?_;refine mv h116 rfl rfl fun _ h117=>?_;refine ma h117 rfl rfl fun _ h118=>?_;refine ma h118 rfl rfl fun _ h119=>?_;refine ma h119 rfl rfl fun _ h120=>?_;refine ae (aa (wp_ret ?_));refine ql h120 rfl rfl rfl rfl ?_;refine⟨(A27,c27),by rw[e1,hun,←hple];(try rfl),?_⟩;rw[e1,hun];show St [] w _ [.row (.slice A27 q.p.length c27) q.p.length _ _ _];rw[hple];exact(S25.sub (.cons_cons _ (.cons _ .slnil)))
end Go.Proofs.YtcfdpfmchchkaaaGreatDoor
