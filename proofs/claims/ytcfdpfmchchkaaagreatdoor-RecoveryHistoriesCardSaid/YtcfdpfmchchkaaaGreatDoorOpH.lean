/-
  Chapter 21: inverses, joined; the reference's.
  Chapter 21: entries: the reference's errors.
-/
import Derived.Test.YtcfdpfmchchkaaaGreatDoorRcD
namespace Go.Proofs.YtcfdpfmchchkaaaGreatDoor
set_option maxRecDepth 100000
set_option maxHeartbeats 4000000
set_option linter.unusedVariables false
set_option linter.unusedSimpArgs false
open Go.RowKit Go.Sort
theorem xf {x:Op} (h:nq x):(0≤x.k∧x.k≤6)∧(0≤x.e∧x.e≤512)∧x.o.size≤3100∧x.n.size≤3100:=by unfold nq at h;omega
theorem th (x:Op) (w:World) (h:dp x=0) :
 Calls Tryz.prog 219 #[gA x] w fun r w'=>r=.returned (.tuple #[gA (jD x),.int .i64 0])∧Below w.heap.size w w':=by
 have hok:=(jr x).1 h;have hs:=xf hok;obtain⟨k,a,e,c,o,n⟩:=x
 dsimp only at hs
 obtain⟨hk,he,ho,hn⟩:=hs
 have:k=0∨k=1∨k=2∨k=3∨k=4∨k=5∨k=6:=by omega
 rcases this with rfl | rfl | rfl | rfl | rfl | rfl | rfl
 · exact vz a e c o n w ho hn he.1 he.2 h
 · exact w8 a e c o n w ho hn he.1 he.2 h
 · exact xv a e c o n w ho hn he.1 he.2 h
 · exact xm a e c o n w ho hn he.1 he.2 h
 · exact vJ a e c o n w ho hn he.1 he.2 h
 · exact xq a e c o n w ho hn he.1 he.2 h
 · exact wo a e c o n w ho hn he.1 he.2 h
theorem qc (a:Int) (o n:ByteArray) (w:World) :
 Calls Tryz.prog 114 #[.agg #[.int .i64 1,.int .i64 a,.int .i64 0,.int .i64 0,.string o,.string n]] w fun r w'=>r=.returned (.agg #[.int .i64 1,.int .i64 a,.int .i64 0,.int .i64 0,.string n,.string o])∧Below w.heap.size w w':=by
 have hr1:Box ((w.alloc (.cells #[.int .i64 1,.int .i64 a,.int .i64 0,.int .i64 0,.string o,.string n] 141)).alloc (.cells #[.int .i64 0,.int .i64 0,.int .i64 0,.int .i64 0,.string ⟨#[]⟩,.string ⟨#[]⟩] 141)) (w.heap.size+1) #[.int .i64 0,.int .i64 0,.int .i64 0,.int .i64 0,.string ⟨#[]⟩,.string ⟨#[]⟩] 141:=by
  have h:=Box.new (w.alloc (.cells #[.int .i64 1,.int .i64 a,.int .i64 0,.int .i64 0,.string o,.string n] 141)) #[.int .i64 0,.int .i64 0,.int .i64 0,.int .i64 0,.string ⟨#[]⟩,.string ⟨#[]⟩] 141;rw[World.size_alloc] at h;exact h
 have HR:=Lib.hid hr1;clear hr1
 go_enter Tryz.func114,Tryz.ntmps114
 go_wp2_with (refine ai rfl 141 (.tmp 2) (.tmp 16) rfl rfl (w.heap.size+1) #[.int .i64 1,.int .i64 a,.int .i64 0,.int .i64 0,.string n,.string o] rfl rfl w bu (Nat.le_succ _) 141 #[.int .i64 0,.int .i64 0,.int .i64 0,.int .i64 0,.string ⟨#[]⟩,.string ⟨#[]⟩] HR.out aa aa aa ?_;intro W9 hb9 hr9 _)
 exact bodyPost_ret (results_cell_row Tryz.results114 _ W9 (w.heap.size+1) 141 _ (0,0) _ rfl hr9 Tryz.underlying141 rfl aa) rfl ⟨rfl,hb9⟩
theorem qb (a:Int) (o n:ByteArray) (w:World) :
 Calls Tryz.prog 114 #[.agg #[.int .i64 6,.int .i64 a,.int .i64 0,.int .i64 0,.string o,.string n]] w fun r w'=>r=.returned (.agg #[.int .i64 6,.int .i64 a,.int .i64 0,.int .i64 0,.string n,.string o])∧Below w.heap.size w w':=by
 have hr1:Box ((w.alloc (.cells #[.int .i64 6,.int .i64 a,.int .i64 0,.int .i64 0,.string o,.string n] 141)).alloc (.cells #[.int .i64 0,.int .i64 0,.int .i64 0,.int .i64 0,.string ⟨#[]⟩,.string ⟨#[]⟩] 141)) (w.heap.size+1) #[.int .i64 0,.int .i64 0,.int .i64 0,.int .i64 0,.string ⟨#[]⟩,.string ⟨#[]⟩] 141:=by
  have h:=Box.new (w.alloc (.cells #[.int .i64 6,.int .i64 a,.int .i64 0,.int .i64 0,.string o,.string n] 141)) #[.int .i64 0,.int .i64 0,.int .i64 0,.int .i64 0,.string ⟨#[]⟩,.string ⟨#[]⟩] 141;rw[World.size_alloc] at h;exact h
 have HR:=Lib.hid hr1;clear hr1
 go_enter Tryz.func114,Tryz.ntmps114
 go_wp2_with (refine ai rfl 141 (.tmp 2) (.tmp 16) rfl rfl (w.heap.size+1) #[.int .i64 6,.int .i64 a,.int .i64 0,.int .i64 0,.string n,.string o] rfl rfl w bu (Nat.le_succ _) 141 #[.int .i64 0,.int .i64 0,.int .i64 0,.int .i64 0,.string ⟨#[]⟩,.string ⟨#[]⟩] HR.out aa aa aa ?_;intro W9 hb9 hr9 _)
 exact bodyPost_ret (results_cell_row Tryz.results114 _ W9 (w.heap.size+1) 141 _ (0,0) _ rfl hr9 Tryz.underlying141 rfl aa) rfl ⟨rfl,hb9⟩
theorem pR (a e:Int) (n:ByteArray) (hn:n.size≤3100) (he0:0≤e) (he1:e≤512) (w:World) :
 Calls Tryz.prog 114 #[.agg #[.int .i64 2,.int .i64 a,.int .i64 e,.int .i64 0,.string ⟨#[]⟩,.string n]] w fun r w'=>r=.returned (.agg #[.int .i64 3,.int .i64 a,.int .i64 (e+n.size),.int .i64 0,.string n,.string ⟨#[]⟩])∧Below w.heap.size w w':=by
 have hr1:Box ((w.alloc (.cells #[.int .i64 2,.int .i64 a,.int .i64 e,.int .i64 0,.string ⟨#[]⟩,.string n] 141)).alloc (.cells #[.int .i64 0,.int .i64 0,.int .i64 0,.int .i64 0,.string ⟨#[]⟩,.string ⟨#[]⟩] 141)) (w.heap.size+1) #[.int .i64 0,.int .i64 0,.int .i64 0,.int .i64 0,.string ⟨#[]⟩,.string ⟨#[]⟩] 141:=by
  have h:=Box.new (w.alloc (.cells #[.int .i64 2,.int .i64 a,.int .i64 e,.int .i64 0,.string ⟨#[]⟩,.string n] 141)) #[.int .i64 0,.int .i64 0,.int .i64 0,.int .i64 0,.string ⟨#[]⟩,.string ⟨#[]⟩] 141;rw[World.size_alloc] at h;exact h
 have HR:=Lib.hid hr1;clear hr1
 go_enter Tryz.func114,Tryz.ntmps114
 go_wp2_with (refine ai rfl 141 (.tmp 2) (.tmp 29) rfl rfl (w.heap.size+1) #[.int .i64 3,.int .i64 a,.int .i64 (e+n.size),.int .i64 0,.string n,.string ⟨#[]⟩] rfl rfl w bu (Nat.le_succ _) 141 #[.int .i64 0,.int .i64 0,.int .i64 0,.int .i64 0,.string ⟨#[]⟩,.string ⟨#[]⟩] HR.out aa aa aa ?_;intro W9 hb9 hr9 _)
 exact bodyPost_ret (results_cell_row Tryz.results114 _ W9 (w.heap.size+1) 141 _ (0,0) _ rfl hr9 Tryz.underlying141 rfl aa) rfl ⟨rfl,hb9⟩
theorem pY (a e:Int) (o:ByteArray) (ho:o.size≤3100) (he0:0≤e) (he1:e≤512) (w:World) :
 Calls Tryz.prog 114 #[.agg #[.int .i64 3,.int .i64 a,.int .i64 e,.int .i64 0,.string o,.string ⟨#[]⟩]] w fun r w'=>r=.returned (.agg #[.int .i64 2,.int .i64 a,.int .i64 (e-o.size),.int .i64 0,.string ⟨#[]⟩,.string o])∧Below w.heap.size w w':=by
 have hr1:Box ((w.alloc (.cells #[.int .i64 3,.int .i64 a,.int .i64 e,.int .i64 0,.string o,.string ⟨#[]⟩] 141)).alloc (.cells #[.int .i64 0,.int .i64 0,.int .i64 0,.int .i64 0,.string ⟨#[]⟩,.string ⟨#[]⟩] 141)) (w.heap.size+1) #[.int .i64 0,.int .i64 0,.int .i64 0,.int .i64 0,.string ⟨#[]⟩,.string ⟨#[]⟩] 141:=by
  have h:=Box.new (w.alloc (.cells #[.int .i64 3,.int .i64 a,.int .i64 e,.int .i64 0,.string o,.string ⟨#[]⟩] 141)) #[.int .i64 0,.int .i64 0,.int .i64 0,.int .i64 0,.string ⟨#[]⟩,.string ⟨#[]⟩] 141;rw[World.size_alloc] at h;exact h
 have HR:=Lib.hid hr1;clear hr1
 go_enter Tryz.func114,Tryz.ntmps114
 go_wp2_with (refine ai rfl 141 (.tmp 2) (.tmp 42) rfl rfl (w.heap.size+1) #[.int .i64 2,.int .i64 a,.int .i64 (e-o.size),.int .i64 0,.string ⟨#[]⟩,.string o] rfl rfl w bu (Nat.le_succ _) 141 #[.int .i64 0,.int .i64 0,.int .i64 0,.int .i64 0,.string ⟨#[]⟩,.string ⟨#[]⟩] HR.out aa aa aa ?_;intro W9 hb9 hr9 _)
 exact bodyPost_ret (results_cell_row Tryz.results114 _ W9 (w.heap.size+1) 141 _ (0,0) _ rfl hr9 Tryz.underlying141 rfl aa) rfl ⟨rfl,hb9⟩
theorem pP (a c:Int) (w:World) :
 Calls Tryz.prog 114 #[.agg #[.int .i64 4,.int .i64 a,.int .i64 0,.int .i64 c,.string ⟨#[]⟩,.string ⟨#[]⟩]] w fun r w'=>r=.returned (.agg #[.int .i64 5,.int .i64 a,.int .i64 0,.int .i64 c,.string ⟨#[]⟩,.string ⟨#[]⟩])∧Below w.heap.size w w':=by
 have hr1:Box ((w.alloc (.cells #[.int .i64 4,.int .i64 a,.int .i64 0,.int .i64 c,.string ⟨#[]⟩,.string ⟨#[]⟩] 141)).alloc (.cells #[.int .i64 0,.int .i64 0,.int .i64 0,.int .i64 0,.string ⟨#[]⟩,.string ⟨#[]⟩] 141)) (w.heap.size+1) #[.int .i64 0,.int .i64 0,.int .i64 0,.int .i64 0,.string ⟨#[]⟩,.string ⟨#[]⟩] 141:=by
  have h:=Box.new (w.alloc (.cells #[.int .i64 4,.int .i64 a,.int .i64 0,.int .i64 c,.string ⟨#[]⟩,.string ⟨#[]⟩] 141)) #[.int .i64 0,.int .i64 0,.int .i64 0,.int .i64 0,.string ⟨#[]⟩,.string ⟨#[]⟩] 141;rw[World.size_alloc] at h;exact h
 have HR:=Lib.hid hr1;clear hr1
 go_enter Tryz.func114,Tryz.ntmps114
 go_wp2_with (refine ai rfl 141 (.tmp 2) (.tmp 49) rfl rfl (w.heap.size+1) #[.int .i64 5,.int .i64 a,.int .i64 0,.int .i64 c,.string ⟨#[]⟩,.string ⟨#[]⟩] rfl rfl w bu (Nat.le_succ _) 141 #[.int .i64 0,.int .i64 0,.int .i64 0,.int .i64 0,.string ⟨#[]⟩,.string ⟨#[]⟩] HR.out aa aa aa ?_;intro W9 hb9 hr9 _)
 exact bodyPost_ret (results_cell_row Tryz.results114 _ W9 (w.heap.size+1) 141 _ (0,0) _ rfl hr9 Tryz.underlying141 rfl aa) rfl ⟨rfl,hb9⟩
theorem pL (a c:Int) (w:World) :
 Calls Tryz.prog 114 #[.agg #[.int .i64 5,.int .i64 a,.int .i64 0,.int .i64 c,.string ⟨#[]⟩,.string ⟨#[]⟩]] w fun r w'=>r=.returned (.agg #[.int .i64 4,.int .i64 a,.int .i64 0,.int .i64 c,.string ⟨#[]⟩,.string ⟨#[]⟩])∧Below w.heap.size w w':=by
 have hr1:Box ((w.alloc (.cells #[.int .i64 5,.int .i64 a,.int .i64 0,.int .i64 c,.string ⟨#[]⟩,.string ⟨#[]⟩] 141)).alloc (.cells #[.int .i64 0,.int .i64 0,.int .i64 0,.int .i64 0,.string ⟨#[]⟩,.string ⟨#[]⟩] 141)) (w.heap.size+1) #[.int .i64 0,.int .i64 0,.int .i64 0,.int .i64 0,.string ⟨#[]⟩,.string ⟨#[]⟩] 141:=by
  have h:=Box.new (w.alloc (.cells #[.int .i64 5,.int .i64 a,.int .i64 0,.int .i64 c,.string ⟨#[]⟩,.string ⟨#[]⟩] 141)) #[.int .i64 0,.int .i64 0,.int .i64 0,.int .i64 0,.string ⟨#[]⟩,.string ⟨#[]⟩] 141;rw[World.size_alloc] at h;exact h
 have HR:=Lib.hid hr1;clear hr1
 go_enter Tryz.func114,Tryz.ntmps114
 go_wp2_with (refine ai rfl 141 (.tmp 2) (.tmp 56) rfl rfl (w.heap.size+1) #[.int .i64 4,.int .i64 a,.int .i64 0,.int .i64 c,.string ⟨#[]⟩,.string ⟨#[]⟩] rfl rfl w bu (Nat.le_succ _) 141 #[.int .i64 0,.int .i64 0,.int .i64 0,.int .i64 0,.string ⟨#[]⟩,.string ⟨#[]⟩] HR.out aa aa aa ?_;intro W9 hb9 hr9 _)
 exact bodyPost_ret (results_cell_row Tryz.results114 _ W9 (w.heap.size+1) 141 _ (0,0) _ rfl hr9 Tryz.underlying141 rfl aa) rfl ⟨rfl,hb9⟩
theorem p5 (w:World) :
 Calls Tryz.prog 114 #[.agg #[.int .i64 0,.int .i64 0,.int .i64 0,.int .i64 0,.string ⟨#[]⟩,.string ⟨#[]⟩]] w fun r w'=>r=.returned (.agg #[.int .i64 0,.int .i64 0,.int .i64 0,.int .i64 0,.string ⟨#[]⟩,.string ⟨#[]⟩])∧Below w.heap.size w w':=by
 have hr1:Box ((w.alloc (.cells #[.int .i64 0,.int .i64 0,.int .i64 0,.int .i64 0,.string ⟨#[]⟩,.string ⟨#[]⟩] 141)).alloc (.cells #[.int .i64 0,.int .i64 0,.int .i64 0,.int .i64 0,.string ⟨#[]⟩,.string ⟨#[]⟩] 141)) (w.heap.size+1) #[.int .i64 0,.int .i64 0,.int .i64 0,.int .i64 0,.string ⟨#[]⟩,.string ⟨#[]⟩] 141:=by
  have h:=Box.new (w.alloc (.cells #[.int .i64 0,.int .i64 0,.int .i64 0,.int .i64 0,.string ⟨#[]⟩,.string ⟨#[]⟩] 141)) #[.int .i64 0,.int .i64 0,.int .i64 0,.int .i64 0,.string ⟨#[]⟩,.string ⟨#[]⟩] 141;rw[World.size_alloc] at h;exact h
 have HR:=Lib.hid hr1;clear hr1
 go_enter Tryz.func114,Tryz.ntmps114
 go_wp2_with (refine ai rfl 141 (.tmp 2) (.tmp 57) rfl rfl (w.heap.size+1) #[.int .i64 0,.int .i64 0,.int .i64 0,.int .i64 0,.string ⟨#[]⟩,.string ⟨#[]⟩] rfl rfl w bu (Nat.le_succ _) 141 #[.int .i64 0,.int .i64 0,.int .i64 0,.int .i64 0,.string ⟨#[]⟩,.string ⟨#[]⟩] HR.out aa aa aa ?_;intro W9 hb9 hr9 _)
 exact bodyPost_ret (results_cell_row Tryz.results114 _ W9 (w.heap.size+1) 141 _ (0,0) _ rfl hr9 Tryz.underlying141 rfl aa) rfl ⟨rfl,hb9⟩
theorem nY (x:Op) (w:World) (h:dp x=0) :
 Calls Tryz.prog 114 #[gA x] w fun r w'=>r=.returned (gA (jD x))∧Below w.heap.size w w':=by
 have hok:=(jr x).1 h;obtain⟨k,a,e,c,o,n⟩:=x;unfold nq at hok
 dsimp only at hok
 rcases hok with ⟨rfl,rfl,rfl,rfl,ho,hn⟩ | ⟨rfl,rfl,rfl,hs,h1,h2,h3,h4⟩ | ⟨rfl,rfl,ho,h1,h2,h3,h4,h5⟩ | ⟨rfl,rfl,hn,h1,h2,h3,h4,h5⟩ | ⟨hk,rfl,ho,hn,h1,h2,h3,h4⟩ | ⟨rfl,rfl,rfl,rfl,ho,hn⟩
 · obtain rfl:=fC ho;obtain rfl:=fC hn;exact p5 w
 · exact qc a o n w
 · obtain rfl:=fC ho;exact pR a e n ab ab ab w
 · obtain rfl:=fC hn;exact pY a e o ab ab ab w
 · obtain rfl:=fC ho;obtain rfl:=fC hn
   rcases hk with rfl | rfl
   · exact pP a c w
   · exact pL a c w
 · exact qb 0 o n w
open Go.RowKit Go.Sort
theorem mW (e:Lge) (w:World) (ho:e.o.o.size≤3100) (hn:e.o.n.size≤3100) (hd:e.d.size≤maxLen) :
 Calls Tryz.prog 154 #[dM e] w fun r w'=>r=.returned (.int .i64 (dC e))∧Below w.heap.size w w':=
 kD e.k e.t e.p e.x e.g e.f e.o e.d w ho hn hd
theorem oB (o:Op) (w:World) :
 Calls Tryz.prog 174 #[gA o] w fun r w'=>r=.returned (.bool (mQ o))∧Below w.heap.size w w':=by
 have hnil:=nv o;obtain⟨Bn,hBn⟩:∃b,mQ o=b:=⟨_,rfl⟩;rw[hBn] at hnil ⊢;clear hBn;unfold gA
 go_enter Tryz.func174,Tryz.ntmps174
 go_wp2
 go_ret
 exact⟨rfl,bu⟩
theorem Cd (e:Lge):dC e=if bm e.k 0 5=false then 15 else if pM e=false then 2 else if jj e=false then 3 else if (1000:Int)<e.d.size then 8 else dp e.o:=by
 unfold dC
 have h4:decide ((e.d.size:Int)≤1000)=!decide ((1000:Int)<e.d.size):=by
  by_cases h:(1000:Int)<e.d.size
  · rw[decide_eq_true h,decide_eq_false ab];rfl
  · rw[decide_eq_false h,decide_eq_true ab];rfl
 rw[h4]
 cases bm e.k 0 5<;>cases pM e<;>cases jj e<;>by_cases h:(1000:Int)<e.d.size<;>simp[au,aS,h]<;>(intro h;exact h.symm)
theorem nR (k t p x g:Int) (f:Bool) (o:Op) (d:ByteArray) (w:World) (ho:o.o.size≤3100) (hn:o.n.size≤3100) (hd:d.size≤maxLen) :
 Calls Tryz.prog 107 #[.agg #[.int .i64 k,.int .i64 t,.int .i64 p,.int .i64 x,.int .i64 g,.bool f,.int .i64 o.k,.int .i64 o.a,.int .i64 o.e,.int .i64 o.c,.string o.o,.string o.n,.string d]] w fun r w'=>r=.returned (.int .i64 (dC ⟨k,t,p,x,g,f,o,d⟩))∧Below w.heap.size w w':=by
 have hE:=fun W=>kb o W ho hn;obtain⟨er,her⟩:∃x,x=dp o:=⟨_,rfl⟩;rw[←her] at hE;unfold gA at hE;have HE:=Lib.hid hE;have HER:=Lib.hid her;unfold maxLen at hd;clear hE her ho hn;have hnil:=fun W=>oB o W;obtain⟨Bn,hBn⟩:∃b,mQ o=b:=⟨_,rfl⟩;rw[hBn] at hnil;unfold gA at hnil;have HNIL:=Lib.hid hnil;obtain⟨Nx,hNx⟩:∃b,(x != 0)=b:=⟨_,rfl⟩;obtain⟨B0,hB0⟩:∃b,(k==0)=b:=⟨_,rfl⟩;obtain⟨B1,hB1⟩:∃b,(k==1)=b:=⟨_,rfl⟩;obtain⟨N1,hN1⟩:∃b,(k != 1)=b:=⟨_,rfl⟩;obtain⟨N5,hN5⟩:∃b,(k != 5)=b:=⟨_,rfl⟩;obtain⟨Ng,hNg⟩:∃b,(g != 0)=b:=⟨_,rfl⟩;obtain⟨Bd,hBd⟩:∃b,d.toList.isEmpty=b:=⟨_,rfl⟩;obtain⟨F,hF⟩:∃F,jj ⟨k,t,p,x,g,f,o,d⟩=F:=⟨_,rfl⟩
 have hF':F=!((N1&&Nx)||(!(B0||B1)&&(Ng||f||!Bn))||(N5&&!Bd)):=by
  have e1:(x==0)=!Nx:=by rw[←hNx,bne,Bool.not_not]
  have e2:(k==1)=!N1:=by rw[←hN1,bne,Bool.not_not]
  have e3:(k==5)=!N5:=by rw[←hN5,bne,Bool.not_not]
  have e4:(g==0)=!Ng:=by rw[←hNg,bne,Bool.not_not]
  have e5:(d.size==0)=Bd:=by rw[←hBd,isEmpty_eq]
  have e6:B1=!N1:=by rw[←hB1,e2]
  rw[←hF,e6,←hB0];unfold jj
  dsimp only
  rw[e1,e2,e3,e4,e5,hBn,hB0]
  cases N1<;>cases Nx<;>cases B0<;>cases Ng<;>cases f<;>cases Bn<;>cases N5<;>cases Bd<;>rfl
 have HF:=Lib.hid hF;have HF':=Lib.hid hF';clear hBn hF hF' hnil;obtain⟨bt,hbt⟩:∃b,b=bm t 0 9999:=⟨_,rfl⟩;obtain⟨bp,hbp⟩:∃b,b=bm p 0 2147483647:=⟨_,rfl⟩;obtain⟨bx,hbx⟩:∃b,b=bm x 0 2147483647:=⟨_,rfl⟩;obtain⟨bg,hbg⟩:∃b,b=bm g 0 600:=⟨_,rfl⟩;obtain⟨bk,hbk⟩:∃b,b=bm k 0 5:=⟨_,rfl⟩;have hK:=fun W=>aF k 0 5 W;have hT:=fun W=>aF t 0 9999 W;have hG:=fun W=>aF g 0 600 W;have hP:=fun W=>kc p W;have hX:=fun W=>kc x W;rw[←hbk] at hK;rw[←hbt] at hT;rw[←hbg] at hG;rw[←hbp] at hP;rw[←hbx] at hX;have HK:=Lib.hid hK;have HT:=Lib.hid hT;have HG:=Lib.hid hG;have HP:=Lib.hid hP;have HX:=Lib.hid hX;obtain⟨R,hR⟩:∃R,R=(bt&&bp&&bx&&bg):=⟨_,rfl⟩
 have hv:dC ⟨k,t,p,x,g,f,o,d⟩=if bk=false then 15 else if R=false then 2 else if F=false then 3 else if (1000:Int)<d.size then 8 else er:=by
  rw[Cd,HER.out,hbk,hR,hbt,hbp,hbx,hbg,←HF.out];rfl
 have HV:=Lib.hid hv;have HR:=Lib.hid hR;clear hK hT hG hP hX hv hbt hbp hbx hbg hbk hR;rw[HV.out]
 go_enter Tryz.func107,Tryz.ntmps107
 cases bk
 · go_wp2_with (first | (go_at_call 74;(with_reducible refine(HK.out _).mono ?_);rintro e w' ⟨rfl,rfl⟩))
   go_ret
   exact⟨rfl,bu⟩
 · go_upto_region 3 with (first | (go_at_call 74;(with_reducible refine(HK.out _).mono ?_);rintro e w' ⟨rfl,rfl⟩))
   go_cut [29] (fun s29 wx=>s29=.bool (!R)∧wx=w.alloc (.cells #[.int .i64 k,.int .i64 t,.int .i64 p,.int .i64 x,.int .i64 g,.bool f,.int .i64 o.k,.int .i64 o.a,.int .i64 o.e,.int .i64 o.c,.string o.o,.string o.n,.string d] 143))
   case first=>
    go_wp2_with (first | (go_at_call 74;(with_reducible refine(HT.out _).mono ?_);rintro e w' ⟨rfl,rfl⟩) | (go_at_call 74;(with_reducible refine(HG.out _).mono ?_);rintro e w' ⟨rfl,rfl⟩) | (go_at_call 173;(with_reducible refine(HP.out _).mono ?_);rintro e w' ⟨rfl,rfl⟩) | (go_at_call 173;(with_reducible refine(HX.out _).mono ?_);rintro e w' ⟨rfl,rfl⟩))
    all_goals
     go_meet
     refine⟨congrArg Value.bool ?_,rfl⟩;have Y:=HR.out
     simp_all
   case rest=>
   obtain⟨rfl,rfl⟩:=hcut
   cases R
   · go_wp2
     go_ret
     exact⟨rfl,bu⟩
   · go_upto_region 5 with (fail)
     go_cut [3] (fun s3 wx=>s3=.bool (B0||B1)∧wx=w.alloc (.cells #[.int .i64 k,.int .i64 t,.int .i64 p,.int .i64 x,.int .i64 g,.bool f,.int .i64 o.k,.int .i64 o.a,.int .i64 o.e,.int .i64 o.c,.string o.o,.string o.n,.string d] 143))
     case first=>
      go_wp2_with fail
      all_goals
       go_meet
       refine⟨congrArg Value.bool ?_,rfl⟩
       cases B0<;>cases B1<;>simp_all
     case rest=>
     obtain⟨rfl,rfl⟩:=hcut;obtain⟨Bc,hBc⟩:∃b,(B0||B1)=b:=⟨_,rfl⟩;rw[hBc];have HBc:=Lib.hid hBc;clear hBc
     go_upto_region 6 with (fail)
     go_cut [3,74] (fun _ s74 wx=>s74=.bool (!F)∧Below (w.alloc (.cells #[.int .i64 k,.int .i64 t,.int .i64 p,.int .i64 x,.int .i64 g,.bool f,.int .i64 o.k,.int .i64 o.a,.int .i64 o.e,.int .i64 o.c,.string o.o,.string o.n,.string d] 143)).heap.size (w.alloc (.cells #[.int .i64 k,.int .i64 t,.int .i64 p,.int .i64 x,.int .i64 g,.bool f,.int .i64 o.k,.int .i64 o.a,.int .i64 o.e,.int .i64 o.c,.string o.o,.string o.n,.string d] 143)) wx)
     case first=>
      cases f
      all_goals
       go_wp2_with (first | ((go_at_call 174;(with_reducible refine(HNIL.out _).mono ?_);rintro e W1 ⟨rfl,hbW1⟩;obtain⟨hcW1,hfW1⟩:=aJ hbW1);have hsW1:w.heap.size<W1.heap.size:=(by have h:=hbW1.size;(try simp at h);omega)))
       all_goals
        go_meet
        refine⟨congrArg Value.bool ?_,by first | exact hbW1 | exact Below.refl _ _⟩;have Y:=HF'.out;have Y:=HBc.out
        simp_all
     case rest=>
     obtain⟨rfl,hbX⟩:=hcut;obtain⟨hcX,hfX⟩:=aJ hbX;have hsX:=hbX.size;simp at hsX;have hsX':=Nat.lt_of_succ_le hsX;have hbX':=(aV (Below.refl _ _) _:Below w.heap.size w (w.alloc (.cells #[.int .i64 k,.int .i64 t,.int .i64 p,.int .i64 x,.int .i64 g,.bool f,.int .i64 o.k,.int .i64 o.a,.int .i64 o.e,.int .i64 o.c,.string o.o,.string o.n,.string d] 143)))
     cases F
     · go_wp2
       go_ret
       exact⟨rfl,bu⟩
     · by_cases h8:(1000:Int)<d.size
       · go_wp2
         go_ret
         exact⟨by simp[h8],bu⟩
       · go_wp2_with (first | (go_at_call 139;(with_reducible refine(HE.out _).mono ?_);rintro e W2 ⟨rfl,hbW2⟩))
         go_ret
         exact⟨by simp[h8],bu⟩
theorem iA (e:Lge) (w:World) (ho:e.o.o.size≤3100) (hn:e.o.n.size≤3100) (hd:e.d.size≤maxLen) :
 Calls Tryz.prog 107 #[dM e] w fun r w'=>r=.returned (.int .i64 (dC e))∧Below w.heap.size w w':=
 nR e.k e.t e.p e.x e.g e.f e.o e.d w ho hn hd
end Go.Proofs.YtcfdpfmchchkaaaGreatDoor
