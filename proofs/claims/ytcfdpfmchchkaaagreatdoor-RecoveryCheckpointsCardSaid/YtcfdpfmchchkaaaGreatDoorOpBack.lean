/- Chapter 21, plain laws -/
import Derived.Test.YtcfdpfmchchkaaaGreatDoorOpJ
namespace Go.Proofs.YtcfdpfmchchkaaaGreatDoor
set_option linter.unusedVariables false
set_option linter.unusedSimpArgs false
open Go.RowKit
theorem ej (n:Int) (c k:Nat) (h:c≤k):(lit n c).drop k=[]:=List.drop_of_length_le (by rw[aB];exact h)
theorem dA (n:Int) (c k:Nat) (h:c≤k):(lit n c).take k=lit n c:=List.take_of_length_le (by rw[aB];exact h)
theorem rZ (H R:List UInt8) (i c:Nat) (h:i+c≤H.length):aX (bs (H ++ R)) i c=num ((H.drop i).take c):=by
 unfold aX;rw[jJ,List.drop_append_of_le_length ab,List.take_append_of_le_length (by rw[List.length_drop];omega)]
theorem dE (n:Int) (c:Nat) (a:0≤n) (b:n<256 ^ c):num (lit n c)=n:=by rw[yD];exact Int.emod_eq_of_lt a b
theorem yU (H A B:List UInt8) (s:ByteArray) (a:s=bs (H ++ A ++ B)):bl (s.extract H.length (H.length+A.length))=A∧bl (s.extract (H.length+A.length) s.size)=B:=by
 subst a
 constructor
 · rw[bL,jJ,List.append_assoc,←List.append_assoc,List.take_append_of_le_length bm,List.take_of_length_le bm,List.drop_left]
 · rw[bL,jJ,bq,List.take_of_length_le (Nat.le_refl _),←List.length_append,List.drop_left]
theorem gF (o:Op):cq o 5=lit o.k 1 ++ (lit o.a 2 ++ (lit o.e 2 ++ (lit o.c 2 ++ (lit (o.o.size:Int) 2 ++ lit (o.n.size:Int) 2)))):=by
 simp[cq,iz]
theorem Bq {o:Op} (h:gr o):nZ (bs (ba o))=0∧AV (bs (ba o))=o:=by
 have d:=mr h
 have z:0≤o.k∧o.k<256∧o.o.size≤512∧o.n.size≤512:=by unfold gr at h;omega
 have g:=dR o 5 ab
 have f:(bs (ba o)).size=11+o.o.size+o.n.size:=by
  rw[bq];unfold ba;rw[List.length_append,List.length_append,g,aP,aP]
 have b:=fun i c (v:i+c≤11)=>rZ (cq o 5) (bl o.o ++ bl o.n) i c (by rw[g];exact v)
 have u:ba o=cq o 5 ++ (bl o.o ++ bl o.n):=by unfold ba;rw[List.append_assoc]
 rw[←u] at b
 have y:aX (bs (ba o)) 0 1=o.k:=by
  rw[b 0 1 ab,gF];simp[List.take_append,dA,aB];exact dE _ _ z.1 ab
 have n1:aX (bs (ba o)) 1 2=o.a:=by
  rw[b 1 2 ab,gF];simp[List.drop_append,List.take_append,ej,dA,aB];exact dE _ _ d.a.1 (by have:=d.a.2;omega)
 have r:aX (bs (ba o)) 3 2=o.e:=by
  rw[b 3 2 ab,gF];simp[List.drop_append,List.take_append,ej,dA,aB];exact dE _ _ d.e.1 (by have:=d.e.2;omega)
 have w:aX (bs (ba o)) 5 2=o.c:=by
  rw[b 5 2 ab,gF];simp[List.drop_append,List.take_append,ej,dA,aB];exact dE _ _ d.c.1 (by have:=d.c.2;omega)
 have m:aX (bs (ba o)) 7 2=(o.o.size:Int):=by
  rw[b 7 2 ab,gF];simp[List.drop_append,List.take_append,ej,dA,aB];exact dE _ _ ab ab
 have x:aX (bs (ba o)) 9 2=(o.n.size:Int):=by
  rw[b 9 2 ab,gF];simp[List.drop_append,List.take_append,ej,dA,aB];exact dE _ _ ab ab
 obtain⟨j,p⟩:=yU (cq o 5) (bl o.o) (bl o.n) (bs (ba o)) rfl;rw[g,aP] at j p
 have q:Dx (bs (ba o))=o:=by
  unfold Dx;rw[y,n1,r,w,m,Int.toNat_natCast,dU (s:=(bs (ba o)).extract 11 (11+o.o.size)) (t:=o.o) j,dU (s:=(bs (ba o)).extract (11+o.o.size) (bs (ba o)).size) (t:=o.n) p]
 have l:nZ (bs (ba o))=0:=by
  unfold nZ;rw[if_neg (by rw[f];omega),if_neg (by rw[f];omega),m,x,if_neg (by rw[f];omega),if_neg (by rw[f];omega),q];exact(gZ o).2 h
 refine⟨l,?_⟩;unfold AV;rw[if_pos l,q]
def jo (e:Lge):List UInt8:=lit e.k 1 ++ lit (if e.f then 1 else 0) 1 ++ lit e.t 2 ++ lit e.p 4 ++ lit e.x 4 ++ lit e.g 2 ++ lit (e.d.size:Int) 2
theorem eL (e:Lge):jo e=lit e.k 1 ++ (lit (if e.f then 1 else 0) 1 ++ (lit e.t 2 ++ (lit e.p 4 ++ (lit e.x 4 ++ (lit e.g 2 ++ lit (e.d.size:Int) 2))))):=by
 unfold jo;simp[List.append_assoc]
theorem zj {e:Lge} (h:cD e=0):cx (bs (bK e))=0∧dW (bs (bK e))=e:=by
 obtain⟨⟨J,L⟩,hr,_,K,j⟩:=kt h;obtain⟨⟨E,t2⟩,⟨F,N⟩,⟨A,O⟩,C,M⟩:=j1 hr;obtain⟨o1,I⟩:=Bq j
 have D:(bs (ba e.o)).size≤1035:=by
  have P:e.o.o.size≤512∧e.o.n.size≤512:=by unfold gr at j;omega
  rw[bq];unfold ba;rw[List.length_append,List.length_append,dR _ 5 ab,aP,aP];omega
 have m:(jo e).length=16:=by unfold jo;simp[aB]
 have r:bK e=jo e ++ bl e.d ++ ba e.o:=rfl
 have q:(bs (bK e)).size=16+e.d.size+(bs (ba e.o)).size:=by
  rw[r,bq,List.length_append,List.length_append,m,aP];rfl
 have a:=fun i c (B:i+c≤16)=>rZ (jo e) (bl e.d ++ ba e.o) i c (by rw[m];exact B);rw[←List.append_assoc,←r] at a
 have G:aX (bs (bK e)) 0 1=e.k:=by
  rw[a 0 1 ab,eL];simp[List.take_append,dA,aB];exact dE _ _ J ab
 have n1:aX (bs (bK e)) 1 1=if e.f then 1 else 0:=by
  rw[a 1 1 ab,eL];simp[List.drop_append,List.take_append,ej,dA,aB];exact dE _ _ (by split<;>omega) (by split<;>omega)
 have n2:aX (bs (bK e)) 2 2=e.t:=by
  rw[a 2 2 ab,eL];simp[List.drop_append,List.take_append,ej,dA,aB];exact dE _ _ E ab
 have z:aX (bs (bK e)) 4 4=e.p:=by
  rw[a 4 4 ab,eL];simp[List.drop_append,List.take_append,ej,dA,aB];exact dE _ _ F ab
 have H:aX (bs (bK e)) 8 4=e.x:=by
  rw[a 8 4 ab,eL];simp[List.drop_append,List.take_append,ej,dA,aB];exact dE _ _ A ab
 have l:aX (bs (bK e)) 12 2=e.g:=by
  rw[a 12 2 ab,eL];simp[List.drop_append,List.take_append,ej,dA,aB];exact dE _ _ C ab
 have b:aX (bs (bK e)) 14 2=(e.d.size:Int):=by
  rw[a 14 2 ab,eL];simp[List.drop_append,List.take_append,ej,dA,aB];exact dE _ _ ab ab
 obtain⟨v,w⟩:=yU (jo e) (bl e.d) (ba e.o) (bs (bK e)) rfl;rw[m,aP] at v w
 have ht:fc (bs (bK e))=bs (ba e.o):=by
  unfold fc;rw[b,Int.toNat_natCast];exact dU w
 have hf:((if e.f then (1:Int) else 0)==1)=e.f:=by cases e.f<;>rfl
 have y:je (bs (bK e))=e:=by
  unfold je;rw[G,n1,n2,z,H,l,b,ht,I,hf,Int.toNat_natCast,dU (s:=(bs (bK e)).extract 16 (16+e.d.size)) (t:=e.d) v]
 have u:cx (bs (bK e))=0:=by
  unfold cx;rw[if_neg (by rw[q];omega),if_neg (by rw[q];omega),b,if_neg (by rw[q];omega),n1,if_neg (by split<;>omega),ht,o1,if_neg (fun g=>g rfl),y];exact h
 refine⟨u,?_⟩;unfold dW;rw[if_pos u,y]
end Go.Proofs.YtcfdpfmchchkaaaGreatDoor
