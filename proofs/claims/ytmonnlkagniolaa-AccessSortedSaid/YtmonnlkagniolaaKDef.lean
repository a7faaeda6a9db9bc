import Derived.Test.YtmonnlkagniolaaKTy
import Derived.Test.YtmonnlkagniolaaPbV
set_option linter.all false
set_option maxRecDepth 100000
namespace Go.Proofs.Ytmonnlkagniolaa
open Go Go.Pb Go.RowKit
def law21_nodes_L1(x0:List y8q)(x1:Int)(rec_:(List y8q)->Int->Int)(K0:Int->Int):Nat->Int->Int->Int
 |0,x5_,x6_=>K0 x5_
 |m+1,x5_,x6_=>
  if((decide (x6_ < (x0.length:Int)))&&(decide (x5_ < 100)))then
   if((decide (x1=0))||(decide (40 < (((ix x0 x6_).Cond).length:Int))))then
    100
   else
   LET (rec_ ((ix x0 x6_).Then) (wr (x1-1))) λy111=>
   LET (rec_ ((ix x0 x6_).Else) (wr (x1-1))) λy114=>
   law21_nodes_L1 x0 x1 rec_ K0 m (wr ((wr (x5_+y111))+y114)) (x6_+1)
  else
  K0 x5_
def law21_nodes_B(rec_:(List y8q)->Int->Int)(x0:List y8q)(x1:Int):Int:=
 law21_nodes_L1 x0 x1 rec_ (λ(x5_115:Int)=>
  x5_115) (Int.toNat ((x0.length:Int)-0)) (x0.length:Int) 0
def law21_nodes_R:Nat->(List y8q)->Int->Int
 |0,_,_=>default
 |n_+1,x0,x1=>law21_nodes_B (law21_nodes_R n_) x0 x1
def law21_nodes(x0:List y8q)(x1:Int):Int:=law21_nodes_R (x1.toNat+1) x0 x1
def ref11_Small_L1(x0:y21q)(K0:Unit->Bool):Nat->Int->Bool
 |0,x3_=>K0 ()
 |m+1,x3_=>
  if(decide (30 < (((ix x0.Fields x3_).Name).length:Int)))then
   false
  else
  ref11_Small_L1 x0 K0 m (x3_+1)
def ref11_Small(x0:y21q):Bool:=
 if((decide (30 < (x0.Name.length:Int)))||(decide (20 < (x0.Fields.length:Int))))then
  false
 else
 ref11_Small_L1 x0 (λ(_:Unit)=>
  true) (Int.toNat ((x0.Fields.length:Int)-0)) 0
def law21_largeAction_L1(x0:y23q)(K0:Unit->Bool):Nat->Int->Bool
 |0,x3_=>K0 ()
 |m+1,x3_=>
  if((decide (40 < (((ix x0.Body x3_).Index).length:Int)))||(decide (40 < (((ix x0.Body x3_).Value).length:Int))))then
   true
  else
  law21_largeAction_L1 x0 K0 m (x3_+1)
def law21_largeAction(x0:y23q):Bool:=
 if(((decide (8 < (x0.Params.length:Int)))||(decide (16 < (x0.Body.length:Int))))||(decide (60 < (x0.Name.length:Int))))then
  true
 else
 law21_largeAction_L1 x0 (λ(_:Unit)=>
  false) (Int.toNat ((x0.Body.length:Int)-0)) 0
def law21_largeState(x0:y16q):Bool:=
 (((decide (8 < (x0.Extract.length:Int)))||(decide (12 < (x0.Cases.length:Int))))||(decide (60 < (x0.Name.length:Int))))
def y104q(x0:y5q)(K0:Unit->Bool):Nat->Int->Bool
 |0,x3_=>K0 ()
 |m+1,x3_=>
  LET (ref11_Small (ix x0.Headers x3_)) λy125=>
  if(!y125)then
   true
  else
  y104q x0 K0 m (x3_+1)
def y105q(x0:y5q)(K2:Unit->Bool):Nat->Int->Bool
 |0,x4_=>K2 ()
 |m+1,x4_=>
  LET (law21_largeAction (ix x0.Actions x4_)) λy134=>
  if y134 then
   true
  else
  y105q x0 K2 m (x4_+1)
def law21_TooLarge_L3(x0:y5q)(K4:Unit->Bool):Nat->Int->Bool
 |0,x5_=>K4 ()
 |m+1,x5_=>
  if((((decide (10 < (((ix x0.Tables x5_).Keys).length:Int)))||(decide (24 < (((ix x0.Tables x5_).Actions).length:Int))))||(decide (8 < ((((ix x0.Tables x5_).Default).Args).length:Int))))||(decide (60 < (((ix x0.Tables x5_).Name).length:Int))))then
   true
  else
  law21_TooLarge_L3 x0 K4 m (x5_+1)
def law21_TooLarge_L4(x0:y5q)(K6:Unit->Bool):Nat->Int->Bool
 |0,x6_=>K6 ()
 |m+1,x6_=>
  LET (law21_largeState (ix x0.States x6_)) λy164=>
  if y164 then
   true
  else
  law21_TooLarge_L4 x0 K6 m (x6_+1)
def law21_TooLarge(x0:y5q):Bool:=
 if(((((((((decide (60 < (x0.Name.length:Int)))||(decide (16 < (x0.Headers.length:Int))))||(decide (20 < (x0.Metadata.length:Int))))||(decide (8 < (x0.Registers.length:Int))))||(decide (24 < (x0.Actions.length:Int))))||(decide (16 < (x0.Tables.length:Int))))||(decide (16 < (x0.States.length:Int))))||(decide (16 < (x0.Deparser.length:Int))))||(decide (60 < (law21_nodes x0.Control 10))))then
  true
 else
 y104q x0 (λ(_:Unit)=>
  y105q x0 (λ(_:Unit)=>
   law21_TooLarge_L3 x0 (λ(_:Unit)=>
    law21_TooLarge_L4 x0 (λ(_:Unit)=>
     false) (Int.toNat ((x0.States.length:Int)-0)) 0) (Int.toNat ((x0.Tables.length:Int)-0)) 0) (Int.toNat ((x0.Actions.length:Int)-0)) 0) (Int.toNat ((x0.Headers.length:Int)-0)) 0
def law31_works:Bool:=true
def cmp_isNaN_int(x0:Int):Bool:=
 (!decide (x0=x0))
def y109q(x0:Int)(x1:Int):Int:=
 LET (cmp_isNaN_int x0) λy101=>
 LET (cmp_isNaN_int x1) λy102=>
 if y101 then
  if y102 then
   0
  else
  (-1)
 else
 if y102 then
  1
 else
 if(decide (x0 < x1))then
  (-1)
 else
 if(decide (x1 < x0))then
  1
 else
 0
def cmp_Or_int_L1(x0:List Int)(K0:Unit->Int):Nat->Int->Int
 |0,x8_=>K0 ()
 |m+1,x8_=>
  if(!decide ((ix x0 x8_)=0))then
   (ix x0 x8_)
  else
  cmp_Or_int_L1 x0 K0 m (x8_+1)
def cmp_Or_int(x0:List Int):Int:=
 cmp_Or_int_L1 x0 (λ(_:Unit)=>
  0) (Int.toNat ((x0.length:Int)-0)) 0
def y107q(x0:y4q)(x1:y4q):Int:=
 LET (y109q x0.Header x1.Header) λy101=>
 LET (y109q x0.Field x1.Field) λy102=>
 LET (cmp_Or_int ([y101,y102]:List Int)) λy104=>
 y104
def y55q(x0:y4q)(x1:y4q):Int:=
 LET (y109q x0.Header x1.Header) λy101=>
 LET (y109q x0.Field x1.Field) λy102=>
 LET (cmp_Or_int ([y101,y102]:List Int)) λy104=>
 y104
def sort_expr_Fields_1(l:List y4q):List y4q:=l.mergeSort λx y=>!decide (y107q y x < 0)
def y101q(l:List y4q):List y4q:=l.mergeSort λx y=>!decide (y55q y x < 0)
def y85q(l:List y4q):List y4q:=cpt l
def expr_Fields_L1(x0:List y11q)(K0:(List y4q)->(List y4q)):Nat->Int->(List y4q)->(List y4q)
 |0,x8_,zE102=>K0 zE102
 |m+1,x8_,zE102=>
  if(decide (((ix x0 x8_).Op)=2))then
   expr_Fields_L1 x0 K0 m (x8_+1) (zE102++([({Header:=(ix x0 x8_).N,Field:=(ix x0 x8_).W}:y4q)]:List y4q))
  else
  expr_Fields_L1 x0 K0 m (x8_+1) zE102
def expr_Fields(x0:List y11q):(List y4q):=
 expr_Fields_L1 x0 (λ(zE102_112:List y4q)=>
  LET (sort_expr_Fields_1 zE102_112) λy113=>
  LET (y85q y113) λy115=>
  y115) (Int.toNat ((x0.length:Int)-0)) 0 ([]:List y4q)
def y61q(l:List Int):List Int:=l.mergeSort λx y=>decide (x<=y)
def y103q(l:List Int):List Int:=cpt l
def expr_Headers_L1(x0:List y11q)(K0:(List Int)->(List Int)):Nat->Int->(List Int)->(List Int)
 |0,x8_,zE102=>K0 zE102
 |m+1,x8_,zE102=>
  if(decide (((ix x0 x8_).Op)=4))then
   expr_Headers_L1 x0 K0 m (x8_+1) (zE102++([(ix x0 x8_).N]:List Int))
  else
  expr_Headers_L1 x0 K0 m (x8_+1) zE102
def expr_Headers(x0:List y11q):(List Int):=
 expr_Headers_L1 x0 (λ(zE102_112:List Int)=>
  LET (y61q zE102_112) λy113=>
  LET (y103q y113) λy115=>
  y115) (Int.toNat ((x0.length:Int)-0)) 0 ([]:List Int)
def y65q(x0:Int)(c0:y9q):y9q:=
 if(decide (0<=x0))then
  ({p:=c0.p,cells:=(c0.cells++([x0]:List Int))}:y9q)
 else
 ({p:=c0.p,cells:=c0.cells}:y9q)
def access_counts_L1(x0:y5q)(K0:(List Int)->(List Int)):Nat->Int->(List Int)->(List Int)
 |0,x19_,zE108=>K0 zE108
 |m+1,x19_,zE108=>
  access_counts_L1 x0 K0 m (x19_+1) (zE108.set (0:Int).toNat (wr ((ix zE108 (0:Int))+(((ix x0.Headers x19_).Fields).length:Int))))
def y108q(x0:y5q):(List Int):=
 access_counts_L1 x0 (λ(zE108_123:List Int)=>
  zE108_123) (Int.toNat ((x0.Headers.length:Int)-0)) 0 ([0,(x0.Headers.length:Int),(x0.Metadata.length:Int),(x0.Registers.length:Int)]:List Int)
def access_first_L1(x1:Int)(y101:(List Int))(K0:Int->Int):Nat->Int->Int->Int
 |0,x5_,x10_=>K0 x5_
 |m+1,x5_,x10_=>
  if(decide (x10_ < x1))then
   access_first_L1 x1 y101 K0 m (wr (x5_+(ix y101 x10_))) (x10_+1)
  else
  access_first_L1 x1 y101 K0 m x5_ (x10_+1)
def access_first(x0:y5q)(x1:Int):Int:=
 LET (y108q x0) λy101=>
 access_first_L1 x1 y101 (λ(x5_107:Int)=>
  x5_107) (Int.toNat (4-0)) 0 0
def access_cell(x0:y5q)(x1:Int)(x2:Int):Int:=
 if((decide (x2 < 0))||(decide ((ix (y108q x0) x1)<=x2)))then
  (-1)
 else
 LET (access_first x0 x1) λy106=>
 (wr (y106+x2))
def y90q(x0:y5q)(x1:y4q)(K0:Int->Int):Nat->Int->Int->Int
 |0,x5_,x52_=>K0 x5_
 |m+1,x5_,x52_=>
  y90q x0 x1 K0 m (wr (x5_+(((ix (sub x0.Headers 0 x1.Header) x52_).Fields).length:Int))) (x52_+1)
def y99q(x0:y5q)(x1:y4q):Int:=
 if(decide (x1.Header=(-1)))then
  LET (access_cell x0 2 x1.Field) λy102=>
  y102
 else
 if((((decide (x1.Header < 0))||(decide ((x0.Headers.length:Int)<=x1.Header)))||(decide (x1.Field < 0)))||(decide ((((ix x0.Headers x1.Header).Fields).length:Int)<=x1.Field)))then
  (-1)
 else
 y90q x0 x1 (λ(x5_120:Int)=>
  x5_120) (Int.toNat (((sub x0.Headers 0 x1.Header).length:Int)-0)) x1.Field 0
def y98q(x0:y5q)(x1:Int):Int:=
 LET (access_cell x0 1 x1) λy101=>
 y101
def y80q(x0:y5q)(x1:Int):Int:=
 LET (access_cell x0 3 x1) λy101=>
 y101
def y69q(x1:List y4q)(K0:y9q->y9q):Nat->Int->y9q->y9q
 |0,x18_,zE1=>K0 zE1
 |m+1,x18_,zE1=>
  LET (y99q zE1.p (ix x1 x18_)) λy107=>
  LET (y65q y107 ({p:=zE1.p,cells:=zE1.cells}:y9q)) λy108=>
  y69q x1 K0 m (x18_+1) ({p:=y108.p,cells:=y108.cells}:y9q)
def y71q(x2:List Int)(K2:y9q->y9q):Nat->Int->y9q->y9q
 |0,x33_,zE1=>K2 zE1
 |m+1,x33_,zE1=>
  LET (y98q zE1.p (ix x2 x33_)) λy114=>
  LET (y65q y114 ({p:=zE1.p,cells:=zE1.cells}:y9q)) λy115=>
  y71q x2 K2 m (x33_+1) ({p:=y115.p,cells:=y115.cells}:y9q)
def y70q(x3:List Int)(K4:y9q->y9q):Nat->Int->y9q->y9q
 |0,x48_,zE1=>K4 zE1
 |m+1,x48_,zE1=>
  LET (y80q zE1.p (ix x3 x48_)) λy121=>
  LET (y65q y121 ({p:=zE1.p,cells:=zE1.cells}:y9q)) λy122=>
  y70q x3 K4 m (x48_+1) ({p:=y122.p,cells:=y122.cells}:y9q)
def y60q(x0:y9q)(x1:List y4q)(x2:List Int)(x3:List Int):y9q:=
 y69q x1 (λ(zE1_110:y9q)=>
  y71q x2 (λ(zE1_117:y9q)=>
   y70q x3 (λ(zE1_124:y9q)=>
    ({p:=zE1_124.p,cells:=zE1_124.cells}:y9q)) (Int.toNat ((x3.length:Int)-0)) 0 ({p:=zE1_117.p,cells:=zE1_117.cells}:y9q)) (Int.toNat ((x2.length:Int)-0)) 0 ({p:=zE1_110.p,cells:=zE1_110.cells}:y9q)) (Int.toNat ((x1.length:Int)-0)) 0 ({p:=x0.p,cells:=x0.cells}:y9q)
def y68q(x0:y9q):(List Int):=
 LET (y61q x0.cells) λy101=>
 LET (y103q y101) λy103=>
 y103
def y92q(x0:y5q)(x1:y49q):y26q×Bool:=
 if((decide (x1.Table < 0))||(decide ((x0.Tables.length:Int)<=x1.Table)))then
  (({Name:=([]:List UInt8),Keys:=([]:List y57q),Actions:=([]:List Int),Default:=({Action:=0,Args:=([]:List (BitVec 32))}:y73q),Size:=0}:y26q),false)
 else
 ((ix x0.Tables x1.Table),true)
def lexer_isLetter(x0:UInt8):Bool:=
 (((decide ((97:UInt8)<=x0))&&(decide (x0<=(122:UInt8))))||((decide ((65:UInt8)<=x0))&&(decide (x0<=(90:UInt8)))))
def lexer_extent_L1(x0:List UInt8)(x1:UInt8->Bool)(K0:Int->Int):Nat->Int->Int
 |0,x5_=>K0 x5_
 |m+1,x5_=>
  if((decide (x5_ < (x0.length:Int)))&&(x1 (ix x0 x5_)))then
   lexer_extent_L1 x0 x1 K0 m (x5_+1)
  else
  K0 x5_
def lexer_extent(x0:List UInt8)(x1:UInt8->Bool):Int:=
 lexer_extent_L1 x0 x1 (λ(x5_107:Int)=>
  x5_107) (Int.toNat ((x0.length:Int)-0)) 0
def lexer_isDigit(x0:UInt8):Bool:=
 ((decide ((48:UInt8)<=x0))&&(decide (x0<=(57:UInt8))))
def lexer_IsIdentifier_1(x0:UInt8):Bool:=
 LET (lexer_isLetter x0) λy101=>
 ((y101||(lexer_isDigit x0))||(decide (x0=(95:UInt8))))
def lexer_IsIdentifier(x0:List UInt8):Bool:=
 if(((decide ((x0.length:Int)=0))||(decide (16 < (x0.length:Int))))||(!(lexer_isLetter (ix x0 0))))then
  false
 else
 LET (lexer_extent x0 lexer_IsIdentifier_1) λy105=>
 (decide (y105=(x0.length:Int)))
def action_declaration_1(x0:y14q)(c0:y14q):Bool:=
 (decide (x0.Name=c0.Name))
def y64q(x0:List y14q)(x1:y14q->Bool)(K0:Unit->Int):Nat->Int->Int
 |0,x8_=>K0 ()
 |m+1,x8_=>
  if(x1 (ix x0 x8_))then
   x8_
  else
  y64q x0 x1 K0 m (x8_+1)
def y81q(x0:List y14q)(x1:y14q->Bool):Int:=
 y64q x0 x1 (λ(_:Unit)=>
  (-1)) (Int.toNat ((x0.length:Int)-0)) 0
def y76q(x0:List y14q)(x1:y14q->Bool):Bool:=
 LET (y81q x0 x1) λy101=>
 (decide (0<=y101))
def action_declaration_L1(x0:y23q)(K1:Unit->Int):Nat->Int->Int
 |0,x24_=>K1 ()
 |m+1,x24_=>
  LET (lexer_IsIdentifier ((ix x0.Params x24_).Name)) λy114=>
  if(!y114)then
   6
  else
  if((decide (((ix x0.Params x24_).Width) < 1))||(decide (32 < ((ix x0.Params x24_).Width))))then
   10
  else
  LET (y76q (sub x0.Params 0 x24_) (λa_=>action_declaration_1 a_ (ix x0.Params x24_))) λy122=>
  if y122 then
   7
  else
  action_declaration_L1 x0 K1 m (x24_+1)
def action_declaration(x0:y23q):Int:=
 LET (lexer_IsIdentifier x0.Name) λy101=>
 if(!y101)then
  6
 else
 if((decide (4 < (x0.Params.length:Int)))||(decide (12 < (x0.Body.length:Int))))then
  12
 else
 action_declaration_L1 x0 (λ(_:Unit)=>
  0) (Int.toNat ((x0.Params.length:Int)-0)) 0
def action_width(x0:y5q)(x1:y4q):Int×Bool:=
 LET (λ(x6_109:List y14q)=>
  if((decide (x1.Field < 0))||(decide ((x6_109.length:Int)<=x1.Field)))then
   (0,false)
  else
  ((ix x6_109 x1.Field).Width,true)) λk109=>
 if(!decide (x1.Header=(-1)))then
  if((decide (x1.Header < 0))||(decide ((x0.Headers.length:Int)<=x1.Header)))then
   (0,false)
  else
  k109 ((ix x0.Headers x1.Header).Fields)
 else
 k109 x0.Metadata
def y84q(x0:Int):Int:=
 LET (λ(x4_104:Bool)=>
  if x4_104 then
   0
  else
  LET (λ(x9_109:Bool)=>
   if x9_109 then
    1
   else
   LET (λ(x14_118:Bool)=>
    if x14_118 then
     2
    else
    if(decide (x0=17))then
     3
    else
    (-1)) λk118=>
   if(decide (x0=9))then
    k118 (decide (x0=9))
   else
   if(decide (x0=10))then
    k118 (decide (x0=10))
   else
   if(decide (x0=11))then
    k118 (decide (x0=11))
   else
   if(decide (x0=12))then
    k118 (decide (x0=12))
   else
   if(decide (x0=13))then
    k118 (decide (x0=13))
   else
   if(decide (x0=14))then
    k118 (decide (x0=14))
   else
   if(decide (x0=15))then
    k118 (decide (x0=15))
   else
   k118 (decide (x0=16))) λk109=>
  if(decide (x0=5))then
   k109 (decide (x0=5))
  else
  if(decide (x0=6))then
   k109 (decide (x0=6))
  else
  if(decide (x0=7))then
   k109 (decide (x0=7))
  else
  k109 (decide (x0=8))) λk104=>
 if(decide (x0=1))then
  k104 (decide (x0=1))
 else
 if(decide (x0=2))then
  k104 (decide (x0=2))
 else
 if(decide (x0=3))then
  k104 (decide (x0=3))
 else
 k104 (decide (x0=4))
def expr_wide(x0:Int):Int×Int:=
 if((decide (x0 < 1))||(decide (32 < x0)))then
  (0,10)
 else
 (x0,0)
def bitvec_valid_L1(x0:List Int)(K0:Unit->Bool):Nat->Int->Bool
 |0,x7_=>K0 ()
 |m+1,x7_=>
  if((decide ((ix x0 x7_) < 1))||(decide (32 < (ix x0 x7_))))then
   false
  else
  bitvec_valid_L1 x0 K0 m (x7_+1)
def bitvec_valid(x0:List Int):Bool:=
 bitvec_valid_L1 x0 (λ(_:Unit)=>
  true) (Int.toNat ((x0.length:Int)-0)) 0
def bitvec_Mask(x0:Int):(BitVec 32):=
 LET (bitvec_valid ([x0]:List Int)) λy102=>
 if(!y102)then
  0#32
 else
 (4294967295#32>>>(wr (32-x0)).toNat)
def m1_expr_Scope__field(x0:y28q)(x1:Int)(x2:Int):y14q×Bool:=
 LET (λ(x8_115:List y14q)=>
  if((decide (x2 < 0))||(decide ((x8_115.length:Int)<=x2)))then
   (({Name:=([]:List UInt8),Width:=0}:y14q),false)
  else
  ((ix x8_115 x2),true)) λk115=>
 if(!decide (x1=(-1)))then
  if((decide (x1 < 0))||(decide ((x0.Program.Headers.length:Int)<=x1)))then
   (({Name:=([]:List UInt8),Width:=0}:y14q),false)
  else
  k115 ((ix x0.Program.Headers x1).Fields)
 else
 k115 x0.Program.Metadata
def y100q(x0:y28q)(x1:y11q):Int×Int:=
 if(decide (x1.Op=1))then
  LET (expr_wide x1.W) λy102=>
  if((decide (y102.2=0))&&((decide (x1.N < 0))||(decide (((bitvec_Mask y102.1).toNat:Int) < x1.N))))then
   (0,9)
  else
  (y102.1,y102.2)
 else
 if(decide (x1.Op=2))then
  LET (m1_expr_Scope__field x0 x1.N x1.W) λy108=>
  if(!y108.2)then
   (0,8)
  else
  LET (expr_wide y108.1.Width) λy114=>
  (y114.1,y114.2)
 else
 if(decide (x1.Op=3))then
  if((decide (x1.N < 0))||(decide ((x0.Params.length:Int)<=x1.N)))then
   (0,8)
  else
  LET (expr_wide ((ix x0.Params x1.N).Width)) λy121=>
  (y121.1,y121.2)
 else
 if((decide (x1.N < 0))||(decide ((x0.Program.Headers.length:Int)<=x1.N)))then
  (0,8)
 else
 (1,0)
def expr_combine(x0:y11q)(x1:List Int):Int×Int:=
 LET (λ(x10_102:Bool)=>
  if x10_102 then
   if((decide (x0.N < 0))||(decide (31 < x0.N)))then
    (0,9)
   else
   LET (y84q x0.Op) λy106=>
   if((decide (y106=2))&&(!decide ((ix x1 0)=(ix x1 1))))then
    (0,10)
   else
   if((decide (x0.Op=15))||(decide (x0.Op=16)))then
    (1,0)
   else
   ((ix x1 0),0)
  else
  if(decide (x0.Op=8))then
   if(decide (x0.N < 0))then
    (0,9)
   else
   LET (expr_wide x0.W) λy116=>
   if((!decide (y116.2=0))||(decide ((wr ((ix x1 0)-x0.W)) < x0.N)))then
    (0,10)
   else
   (x0.W,0)
  else
  if(decide (x0.Op=14))then
   LET (expr_wide (wr ((ix x1 0)+(ix x1 1)))) λy123=>
   (y123.1,y123.2)
  else
  if(decide (x0.Op=17))then
   if((!decide ((ix x1 0)=1))||(!decide ((ix x1 1)=(ix x1 2))))then
    (0,10)
   else
   ((ix x1 1),0)
  else
  LET (y84q x0.Op) λy131=>
  if((decide (y131=2))&&(!decide ((ix x1 0)=(ix x1 1))))then
   (0,10)
  else
  if((decide (x0.Op=15))||(decide (x0.Op=16)))then
   (1,0)
  else
  ((ix x1 0),0)) λk102=>
 if(decide (x0.Op=6))then
  k102 (decide (x0.Op=6))
 else
 k102 (decide (x0.Op=7))
def y44q(x0:y28q)(x1:List y11q)(rec_:y28q->(List y11q)->Int->(Int×Int×Int))(K1:Int->(List Int)->(Int×Int×Int)):Nat->Int->Int->(List Int)->(Int×Int×Int)
 |0,x7_,x44_,zE109=>K1 x7_ zE109
 |m+1,x7_,x44_,zE109=>
  LET (rec_ x0 x1 x7_) λy112=>
  if(!decide (y112.2.2=0))then
   (0,0,y112.2.2)
  else
  y44q x0 x1 rec_ K1 m y112.2.1 (x44_+1) (zE109.set x44_.toNat y112.1)
def y51q(rec_:y28q->(List y11q)->Int->(Int×Int×Int))(x0:y28q)(x1:List y11q)(x2:Int):Int×Int×Int:=
 if(decide ((x1.length:Int)<=x2))then
  (0,0,3)
 else
 LET (y84q ((ix x1 x2).Op)) λy103=>
 if(decide (y103 < 0))then
  (0,0,11)
 else
 if(decide (y103=0))then
  LET (y100q x0 (ix x1 x2)) λy107=>
  (y107.1,(wr (x2+1)),y107.2)
 else
 y44q x0 x1 rec_ (λ(x7_116:Int)(zE109_116:List Int)=>
  LET (expr_combine (ix x1 x2) zE109_116) λy118=>
  (y118.1,x7_116,y118.2)) (Int.toNat (y103-0)) (wr (x2+1)) 0 ([0,0,0]:List Int)
def y46q:Nat->y28q->(List y11q)->Int->(Int×Int×Int)
 |0,x0,x1,x2=>(0,0,1)
 |n_+1,x0,x1,x2=>y51q (y46q n_) x0 x1 x2
def y38q(x0:y28q)(x1:List y11q)(x2:Int):Int×Int×Int:=y46q ((x1.length-x2.toNat)+1) x0 x1 x2
def expr_Check(x0:List y11q)(x1:y28q):Int×Int:=
 if(decide (24 < (x0.length:Int)))then
  (0,12)
 else
 LET (y38q x1 x0 0) λy102=>
 if(!decide (y102.2.2=0))then
  (0,y102.2.2)
 else
 if(decide (y102.2.1 < (x0.length:Int)))then
  (0,4)
 else
 (y102.1,0)
def y88q(x0:y41q)(x1:List y11q)(x2:Int):Int:=
 LET (expr_Check x1 x0.scope) λy102=>
 if((decide (y102.2=0))&&(!decide (y102.1=x2)))then
  10
 else
 y102.2
def y77q(x0:y41q)(x1:y13q):Int:=
 LET (action_width x0.scope.Program x1.Dst) λy107=>
 if(decide (x1.Kind=1))then
  if(!y107.2)then
   8
  else
  LET (y88q x0 x1.Value y107.1) λy113=>
  y113
 else
 LET (λ(x43_115:Bool)=>
  if x43_115 then
   if((decide (x1.Header < 0))||(decide ((x0.scope.Program.Headers.length:Int)<=x1.Header)))then
    8
   else
   0
  else
  LET (λ(x57_121:Bool)=>
   if x57_121 then
    if((!((decide (0<=x1.Register))&&(decide (x1.Register < (x0.scope.Program.Registers.length:Int)))))||((decide (x1.Kind=4))&&(!y107.2)))then
     8
    else
    LET (expr_Check x1.Index x0.scope) λy128=>
    if(!decide (y128.2=0))then
     y128.2
    else
    if(decide (x1.Kind=5))then
     LET (y88q x0 x1.Value ((ix x0.scope.Program.Registers x1.Register).Width)) λy134=>
     y134
    else
    if(!decide (y107.1=((ix x0.scope.Program.Registers x1.Register).Width)))then
     10
    else
    0
   else
   11) λk121=>
  if(decide (x1.Kind=4))then
   k121 (decide (x1.Kind=4))
  else
  k121 (decide (x1.Kind=5))) λk115=>
 if(decide (x1.Kind=2))then
  k115 (decide (x1.Kind=2))
 else
 k115 (decide (x1.Kind=3))
def action_Check_L1(x0:y5q)(x1:Int)(K0:Unit->(Int×Int)):Nat->Int->(Int×Int)
 |0,x37_=>K0 ()
 |m+1,x37_=>
  LET (y77q ({scope:=({Program:=x0,Params:=(ix x0.Actions x1).Params}:y28q)}:y41q) (ix ((ix x0.Actions x1).Body) x37_)) λy124=>
  if(!decide (y124=0))then
   (x37_,y124)
  else
  action_Check_L1 x0 x1 K0 m (x37_+1)
def action_Check(x0:y5q)(x1:Int):Int×Int:=
 if((decide (x1 < 0))||(decide ((x0.Actions.length:Int)<=x1)))then
  ((-1),8)
 else
 LET (action_declaration (ix x0.Actions x1)) λy109=>
 if(!decide (y109=0))then
  ((-1),y109)
 else
 action_Check_L1 x0 x1 (λ(_:Unit)=>
  (0,0)) (Int.toNat ((((ix x0.Actions x1).Body).length:Int)-0)) 0
def action_body(x0:y5q)(x1:Int):(List y13q):=
 LET (action_Check x0 x1) λy101=>
 if(!decide (y101.2=0))then
  ([]:List y13q)
 else
 (ix x0.Actions x1).Body
def y54q(x0:y32q)(x1:List y11q):y32q:=
 LET (expr_Fields x1) λy101=>
 LET (expr_Headers x1) λy105=>
 ({fields:=(x0.fields++y101),headers:=(x0.headers++y105),registers:=x0.registers}:y32q)
def y50q(x0:y32q):(List y4q)×(List Int)×(List Int):=
 LET (y101q x0.fields) λy102=>
 LET (y61q x0.headers) λy104=>
 LET (y61q x0.registers) λy106=>
 LET (y85q y102) λy108=>
 LET (y103q y104) λy111=>
 LET (y103q y106) λy114=>
 (y108,y111,y114)
def y66q(y103:(List y13q))(K0:y32q->((List y4q)×(List Int)×(List Int))):Nat->Int->y32q->((List y4q)×(List Int)×(List Int))
 |0,x14_,zE102=>K0 zE102
 |m+1,x14_,zE102=>
  if(decide (((ix y103 x14_).Kind)=1))then
   LET (y54q ({fields:=zE102.fields,headers:=zE102.headers,registers:=zE102.registers}:y32q) ((ix y103 x14_).Value)) λy120=>
   if(((decide (((ix y103 x14_).Kind)=1))||(decide (((ix y103 x14_).Kind)=4)))&&(!decide ((((ix y103 x14_).Dst).Header)=(-1))))then
    y66q y103 K0 m (x14_+1) ({fields:=y120.fields,headers:=(y120.headers++([((ix y103 x14_).Dst).Header]:List Int)),registers:=y120.registers}:y32q)
   else
   y66q y103 K0 m (x14_+1) ({fields:=y120.fields,headers:=y120.headers,registers:=y120.registers}:y32q)
  else
  if(decide (((ix y103 x14_).Kind)=2))then
   if(((decide (((ix y103 x14_).Kind)=1))||(decide (((ix y103 x14_).Kind)=4)))&&(!decide ((((ix y103 x14_).Dst).Header)=(-1))))then
    y66q y103 K0 m (x14_+1) ({fields:=zE102.fields,headers:=((zE102.headers++([(ix y103 x14_).Header]:List Int))++([((ix y103 x14_).Dst).Header]:List Int)),registers:=zE102.registers}:y32q)
   else
   y66q y103 K0 m (x14_+1) ({fields:=zE102.fields,headers:=(zE102.headers++([(ix y103 x14_).Header]:List Int)),registers:=zE102.registers}:y32q)
  else
  if(decide (((ix y103 x14_).Kind)=4))then
   LET (y54q ({fields:=zE102.fields,headers:=zE102.headers,registers:=zE102.registers}:y32q) ((ix y103 x14_).Index)) λy147=>
   if(((decide (((ix y103 x14_).Kind)=1))||(decide (((ix y103 x14_).Kind)=4)))&&(!decide ((((ix y103 x14_).Dst).Header)=(-1))))then
    y66q y103 K0 m (x14_+1) ({fields:=y147.fields,headers:=(y147.headers++([((ix y103 x14_).Dst).Header]:List Int)),registers:=(y147.registers++([(ix y103 x14_).Register]:List Int))}:y32q)
   else
   y66q y103 K0 m (x14_+1) ({fields:=y147.fields,headers:=y147.headers,registers:=(y147.registers++([(ix y103 x14_).Register]:List Int))}:y32q)
  else
  if(decide (((ix y103 x14_).Kind)=5))then
   LET (y54q ({fields:=zE102.fields,headers:=zE102.headers,registers:=zE102.registers}:y32q) ((ix y103 x14_).Index)) λy165=>
   LET (y54q ({fields:=y165.fields,headers:=y165.headers,registers:=y165.registers}:y32q) ((ix y103 x14_).Value)) λy169=>
   if(((decide (((ix y103 x14_).Kind)=1))||(decide (((ix y103 x14_).Kind)=4)))&&(!decide ((((ix y103 x14_).Dst).Header)=(-1))))then
    y66q y103 K0 m (x14_+1) ({fields:=y169.fields,headers:=(y169.headers++([((ix y103 x14_).Dst).Header]:List Int)),registers:=y169.registers}:y32q)
   else
   y66q y103 K0 m (x14_+1) ({fields:=y169.fields,headers:=y169.headers,registers:=y169.registers}:y32q)
  else
  if(((decide (((ix y103 x14_).Kind)=1))||(decide (((ix y103 x14_).Kind)=4)))&&(!decide ((((ix y103 x14_).Dst).Header)=(-1))))then
   y66q y103 K0 m (x14_+1) ({fields:=zE102.fields,headers:=(zE102.headers++([((ix y103 x14_).Dst).Header]:List Int)),registers:=zE102.registers}:y32q)
  else
  y66q y103 K0 m (x14_+1) ({fields:=zE102.fields,headers:=zE102.headers,registers:=zE102.registers}:y32q)
def action_Reads(x0:y5q)(x1:Int):(List y4q)×(List Int)×(List Int):=
 LET (action_body x0 x1) λy103=>
 y66q y103 (λ(zE102_189:y32q)=>
  LET (y50q ({fields:=zE102_189.fields,headers:=zE102_189.headers,registers:=zE102_189.registers}:y32q)) λy190=>
  (y190.1,y190.2.1,y190.2.2)) (Int.toNat ((y103.length:Int)-0)) 0 ({fields:=([]:List y4q),headers:=([]:List Int),registers:=([]:List Int)}:y32q)
def access_Reads_L1(y119:y26q×Bool)(K0:y9q->(List Int)):Nat->Int->y9q->(List Int)
 |0,x39_,zE103=>K0 zE103
 |m+1,x39_,zE103=>
  LET (y60q ({p:=zE103.p,cells:=zE103.cells}:y9q) ([(ix y119.1.Keys x39_).Field]:List y4q) ([]:List Int) ([]:List Int)) λy139=>
  access_Reads_L1 y119 K0 m (x39_+1) ({p:=y139.p,cells:=y139.cells}:y9q)
def access_Reads_L2(x0:y5q)(y119:y26q×Bool)(K2:y9q->(List Int)):Nat->Int->y9q->(List Int)
 |0,x52_,zE103=>K2 zE103
 |m+1,x52_,zE103=>
  LET (action_Reads x0 (ix y119.1.Actions x52_)) λy150=>
  LET (y60q ({p:=zE103.p,cells:=zE103.cells}:y9q) y150.1 y150.2.1 y150.2.2) λy154=>
  access_Reads_L2 x0 y119 K2 m (x52_+1) ({p:=y154.p,cells:=y154.cells}:y9q)
def access_Reads(x0:y5q)(x1:y49q):(List Int):=
 if(decide (x1.Table=(-1)))then
  LET (expr_Fields x1.Cond) λy106=>
  LET (expr_Headers x1.Cond) λy109=>
  LET (y60q ({p:=x0,cells:=([]:List Int)}:y9q) y106 y109 ([]:List Int)) λy111=>
  LET (y68q ({p:=y111.p,cells:=y111.cells}:y9q)) λy115=>
  y115
 else
 LET (y92q x0 x1) λy119=>
 if(!y119.2)then
  ([]:List Int)
 else
 access_Reads_L1 y119 (λ(zE103_142:y9q)=>
  access_Reads_L2 x0 y119 (λ(zE103_157:y9q)=>
   LET (y68q ({p:=zE103_157.p,cells:=zE103_157.cells}:y9q)) λy158=>
   y158) (Int.toNat ((y119.1.Actions.length:Int)-0)) 0 ({p:=zE103_142.p,cells:=zE103_142.cells}:y9q)) (Int.toNat ((y119.1.Keys.length:Int)-0)) 0 ({p:=x0,cells:=([]:List Int)}:y9q)
def y79q(x0:y5q):Int:=
 LET (access_first x0 4) λy101=>
 y101
def law31_sorted_L1(x0:List Int)(x1:Int)(K0:Unit->Bool):Nat->Int->Bool
 |0,x5_=>K0 ()
 |m+1,x5_=>
  if(((decide ((ix x0 x5_) < 0))||(decide (x1<=(ix x0 x5_))))||((decide (0 < x5_))&&(decide ((ix x0 x5_)<=(ix x0 (wr (x5_-1)))))))then
   false
  else
  law31_sorted_L1 x0 x1 K0 m (x5_+1)
def law31_sorted(x0:List Int)(x1:Int):Bool:=
 law31_sorted_L1 x0 x1 (λ(_:Unit)=>
  true) (Int.toNat ((x0.length:Int)-0)) 0
def action_Writes_L2(y103:(List y13q))(x15_:Int)(K3:(List Int)->(List Int)->(List y4q)->((List y4q)×(List Int)×(List Int))):Nat->Int->(List Int)->(List Int)->(List y4q)->((List y4q)×(List Int)×(List Int))
 |0,x49_,zE110n2,zE108n2,zE106n2=>K3 zE110n2 zE108n2 zE106n2
 |m+1,x49_,zE110n2,zE108n2,zE106n2=>
  action_Writes_L2 y103 x15_ K3 m (x49_+1) zE110n2 zE108n2 (zE106n2++([({Header:=(ix y103 x15_).Header,Field:=x49_}:y4q)]:List y4q))
def y83q(x0:y5q)(y103:(List y13q))(K0:(List Int)->(List Int)->(List y4q)->((List y4q)×(List Int)×(List Int))):Nat->Int->(List Int)->(List Int)->(List y4q)->((List y4q)×(List Int)×(List Int))
 |0,x15_,zE110,zE108,zE106=>K0 zE110 zE108 zE106
 |m+1,x15_,zE110,zE108,zE106=>
  LET (λ(x21_118:Bool)=>
   if x21_118 then
    y83q x0 y103 K0 m (x15_+1) zE110 zE108 (zE106++([(ix y103 x15_).Dst]:List y4q))
   else
   LET (λ(x31_125:Bool)=>
    if x31_125 then
     action_Writes_L2 y103 x15_ (λ(zE110n2_138:List Int)(zE108n2_138:List Int)(zE106n2_138:List y4q)=>
      y83q x0 y103 K0 m (x15_+1) zE110n2_138 zE108n2_138 zE106n2_138) (Int.toNat ((((ix x0.Headers ((ix y103 x15_).Header)).Fields).length:Int)-0)) 0 zE110 (zE108++([(ix y103 x15_).Header]:List Int)) zE106
    else
    if(decide (((ix y103 x15_).Kind)=5))then
     y83q x0 y103 K0 m (x15_+1) (zE110++([(ix y103 x15_).Register]:List Int)) zE108 zE106
    else
    y83q x0 y103 K0 m (x15_+1) zE110 zE108 zE106) λk125=>
   if(decide (((ix y103 x15_).Kind)=2))then
    k125 (decide (((ix y103 x15_).Kind)=2))
   else
   k125 (decide (((ix y103 x15_).Kind)=3))) λk118=>
  if(decide (((ix y103 x15_).Kind)=1))then
   k118 (decide (((ix y103 x15_).Kind)=1))
  else
  k118 (decide (((ix y103 x15_).Kind)=4))
def action_Writes(x0:y5q)(x1:Int):(List y4q)×(List Int)×(List Int):=
 LET (action_body x0 x1) λy103=>
 y83q x0 y103 (λ(zE110_145:List Int)(zE108_145:List Int)(zE106_145:List y4q)=>
  LET (y50q ({fields:=zE106_145,headers:=zE108_145,registers:=zE110_145}:y32q)) λy146=>
  (y146.1,y146.2.1,y146.2.2)) (Int.toNat ((y103.length:Int)-0)) 0 ([]:List Int) ([]:List Int) ([]:List y4q)
def access_Writes_L1(x0:y5q)(y101:y26q×Bool)(K0:y9q->(List Int)):Nat->Int->y9q->(List Int)
 |0,x24_,zE109=>K0 zE109
 |m+1,x24_,zE109=>
  LET (action_Writes x0 (ix y101.1.Actions x24_)) λy120=>
  LET (y60q ({p:=zE109.p,cells:=zE109.cells}:y9q) y120.1 y120.2.1 y120.2.2) λy124=>
  access_Writes_L1 x0 y101 K0 m (x24_+1) ({p:=y124.p,cells:=y124.cells}:y9q)
def access_Writes(x0:y5q)(x1:y49q):(List Int):=
 LET (y92q x0 x1) λy101=>
 if(!y101.2)then
  ([]:List Int)
 else
 access_Writes_L1 x0 y101 (λ(zE109_127:y9q)=>
  LET (y68q ({p:=zE109_127.p,cells:=zE109_127.cells}:y9q)) λy128=>
  y128) (Int.toNat ((y101.1.Actions.length:Int)-0)) 0 ({p:=x0,cells:=([]:List Int)}:y9q)
def law31_AccessSorted(x0:y5q)(x1:y49q):Bool:=
 LET (law21_TooLarge x0) λy101=>
 if(y101||(decide (60 < (x1.Cond.length:Int))))then
  LET (law31_works) λy105=>
  y105
 else
 LET (access_Reads x0 x1) λy106=>
 LET (y79q x0) λy108=>
 LET (law31_sorted y106 y108) λy109=>
 ((y109&&(law31_sorted (access_Writes x0 x1) (y79q x0)))&&(law31_works))
end Go.Proofs.Ytmonnlkagniolaa
