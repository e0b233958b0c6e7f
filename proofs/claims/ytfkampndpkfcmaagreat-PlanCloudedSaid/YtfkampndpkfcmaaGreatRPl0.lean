import Derived.Test.YtfkampndpkfcmaaGreatEC
import Derived.Test.YtfkampndpkfcmaaGreatProg
namespace Go.Proofs.RPl
open Go Go.Eng Go.Proofs
set_option maxRecDepth 100000
set_option linter.unusedVariables false
abbrev y0:Ty:=.pair .bool (.int .u8)
abbrev y1:Ty:=.pair (.int .i64) y0
abbrev y2:Ty:=.pair (.int .i64) y1
abbrev y3:Ty:=.pair .str (.int .u64)
abbrev y4:Ty:=.slice (.int .i64)
abbrev y5:Ty:=.pair y4 (.int .i64)
abbrev y6:Ty:=.pair (.int .i64) (.int .i64)
abbrev y7:Ty:=.pair (.int .i64) y6
abbrev y8:Ty:=.pair (.int .i64) y7
abbrev y9:Ty:=.pair (.int .i64) y4
abbrev y10:Ty:=.pair y7 y9
abbrev y11:Ty:=.pair y7 y10
abbrev y12:Ty:=.pair (.int .i64) y11
abbrev y13:Ty:=.pair (.int .i64) y12
abbrev y14:Ty:=.pair (.int .i64) y13
abbrev y15:Ty:=.pair y8 y14
abbrev y16:Ty:=.pair y6 y15
abbrev y17:Ty:=.pair y8 y6
abbrev y18:Ty:=.pair y8 y17
abbrev y19:Ty:=.pair .str (.int .i64)
abbrev y20:Ty:=.slice y19
abbrev y21:Ty:=.pair (.int .i64) y8
abbrev y22:Ty:=.pair (.int .i64) y21
abbrev y23:Ty:=.pair (.int .i64) y22
abbrev y24:Ty:=.pair (.int .i64) y23
abbrev y25:Ty:=.pair y7 y24
abbrev y26:Ty:=.pair (.int .i64) y25
abbrev y27:Ty:=.pair (.int .i64) y26
abbrev y28:Ty:=.slice y27
abbrev y29:Ty:=.pair y20 y28
abbrev y30:Ty:=.slice y8
abbrev y31:Ty:=.pair y29 y30
abbrev y32:Ty:=.pair y18 y31
abbrev y33:Ty:=.pair y16 y32
abbrev y34:Ty:=.slice (.int .u8)
abbrev y35:Ty:=.slice y4
abbrev y36:Ty:=.pair y6 y35
abbrev y37:Ty:=.pair (.int .i64) y36
abbrev y38:Ty:=.slice y6
abbrev y39:Ty:=.slice y38
abbrev y40:Ty:=.pair y35 y39
abbrev y41:Ty:=.pair y29 y40
abbrev y42:Ty:=.pair y18 y41
abbrev y43:Ty:=.pair y16 y42
abbrev y44:Ty:=.pair y6 y6
abbrev y45:Ty:=.pair (.int .i64) y44
abbrev y46:Ty:=.pair (.int .i64) y45
abbrev y47:Ty:=.slice y46
abbrev y48:Ty:=.slice y23
abbrev y49:Ty:=.pair y20 .other
abbrev y50:Ty:=.pair y49 y40
abbrev y51:Ty:=.pair y18 y50
abbrev y52:Ty:=.pair y16 y51
abbrev y53:Ty:=.pair y16 y31
abbrev y54:Ty:=.pair y52 y53
abbrev y55:Ty:=.pair y30 y30
abbrev y56:Ty:=.pair y37 y55
abbrev y57:Ty:=.pair y29 y56
abbrev y58:Ty:=.pair y18 y57
abbrev y59:Ty:=.pair y16 y58
abbrev y60:Ty:=.pair (.int .i64) .bool
abbrev y61:Ty:=.pair (.int .i64) y60
abbrev y62:Ty:=.slice y30
abbrev y63:Ty:=.slice (.int .u32)
abbrev y64:Ty:=.pair .bool y63
abbrev y65:Ty:=.pair y4 y47
abbrev y66:Ty:=.pair y52 y65
abbrev y67:Ty:=.pair (.int .i64) (.int .u64)
abbrev y68:Ty:=.pair .ptr .str
abbrev y69:Ty:=.pair .ptr y68
abbrev y70:Ty:=.pair .ptr y69
abbrev y71:Ty:=.pair (.int .i32) (.int .i32)
abbrev y72:Ty:=.pair .ptr y71
abbrev y73:Ty:=.pair .func y72
abbrev y74:Ty:=.pair (.int .u8) y73
abbrev y75:Ty:=.pair (.int .u8) y74
abbrev y76:Ty:=.pair (.int .u8) y75
abbrev y77:Ty:=.pair (.int .u8) y76
abbrev y78:Ty:=.pair (.int .u32) y77
abbrev y79:Ty:=.pair (.int .u64) y78
abbrev y80:Ty:=.pair (.int .u64) y79
abbrev y81:Ty:=.pair .other y16
abbrev y82:Ty:=.pair .func y30
def tis:List (Nat × TI):=[(0,⟨.true,.other,.false,0,[],.false,[],none,[]⟩),(1,⟨.true,.func,.false,8,[],.false,[],none,[]⟩),(2,⟨.true,.int .i64,.false,8,[],.false,[],none,[]⟩),(3,⟨.true,.int .i64,.false,8,[],.false,[],none,[]⟩),(4,⟨.true,.bool,.false,1,[],.false,[],none,[]⟩),(5,⟨.true,.int .u8,.false,1,[],.false,[],none,[]⟩),(6,⟨.true,.int .u8,.false,1,[],.false,[],none,[]⟩),(7,⟨.true,y2,.true,24,[(0,1),(1,1),(2,1),(3,1)],.true,[(some .false),(some .false),(some .false),(some .false)],none,[]⟩),(8,⟨.true,y2,.true,24,[(0,1),(1,1),(2,1),(3,1)],.true,[(some .false),(some .false),(some .false),(some .false)],none,[]⟩),(9,⟨.true,.str,.false,16,[],.false,[],none,[]⟩),(10,⟨.true,.str,.false,16,[],.false,[],none,[]⟩),(11,⟨.true,.str,.false,16,[],.false,[],none,[]⟩),(12,⟨.true,.int .u64,.false,8,[],.false,[],none,[]⟩),(13,⟨.true,y3,.true,24,[(0,1),(1,1)],.false,[(some .false),(some .false)],none,[]⟩),(14,⟨.true,y3,.true,24,[(0,1),(1,1)],.false,[(some .false),(some .false)],none,[]⟩),(15,⟨.true,.ptr,.false,8,[],.false,[],none,[]⟩),(16,⟨.true,.ptr,.false,8,[],.false,[],none,[]⟩),(17,⟨.true,.ptr,.false,8,[],.false,[],none,[("Len",238)]⟩),(18,⟨.true,.pair .ptr .unit,.true,8,[(0,1)],.false,[(some .false)],none,[]⟩),(19,⟨.true,.pair .ptr .unit,.true,8,[(0,1)],.false,[(some .false)],none,[]⟩),(20,⟨.true,.other,.false,16,[],.false,[],none,[]⟩),(21,⟨.true,.int .i32,.false,4,[],.false,[],none,[]⟩),(22,⟨.true,y4,.false,8,[],.false,[],none,[]⟩),(23,⟨.true,.func,.false,8,[],.false,[],none,[]⟩),(24,⟨.true,.ptr,.false,8,[],.false,[],none,[]⟩),(25,⟨.true,y5,.true,32,[(0,1),(1,1)],.false,[(some .false),(some .false)],none,[]⟩),(26,⟨.true,y5,.true,32,[(0,1),(1,1)],.false,[(some .false),(some .false)],none,[]⟩),(27,⟨.true,.int .i64,.false,8,[],.false,[],none,[]⟩),(28,⟨.true,y6,.true,16,[(0,1),(1,1)],.true,[(some .false),(some .false)],none,[]⟩),(29,⟨.true,y6,.true,16,[(0,1),(1,1)],.true,[(some .false),(some .false)],none,[]⟩),(30,⟨.true,.int .i64,.false,8,[],.false,[],none,[]⟩),(31,⟨.true,y6,.true,16,[(0,1),(1,1)],.true,[(some .false),(some .false)],none,[]⟩),(32,⟨.true,y6,.true,16,[(0,1),(1,1)],.true,[(some .false),(some .false)],none,[]⟩),(33,⟨.true,y8,.true,32,[(0,1),(1,1),(2,2)],.true,[(some .false),(some .false),(some .true)],none,[]⟩),(34,⟨.true,y8,.true,32,[(0,1),(1,1),(2,2)],.true,[(some .false),(some .false),(some .true)],none,[]⟩),(35,⟨.true,y7,.true,24,[(0,1),(1,1),(2,1)],.true,[(some .false),(some .false),(some .false)],none,[]⟩),(36,⟨.true,y7,.true,24,[(0,1),(1,1),(2,1)],.true,[(some .false),(some .false),(some .false)],none,[]⟩),(37,⟨.true,.int .i64,.false,8,[],.false,[],none,[]⟩),(38,⟨.true,y16,.true,152,[(0,2),(2,4),(6,1),(7,1),(8,1),(9,3),(12,3),(15,1),(16,1)],.false,[(some .true),(some .true),(some .false),(some .false),(some .false),(some .true),(some .true),(some .false),(some .false)],none,[]⟩),(39,⟨.true,y16,.true,152,[(0,2),(2,4),(6,1),(7,1),(8,1),(9,3),(12,3),(15,1),(16,1)],.false,[(some .true),(some .true),(some .false),(some .false),(some .false),(some .true),(some .true),(some .false),(some .false)],none,[]⟩),(40,⟨.true,.func,.false,8,[],.false,[],none,[]⟩),(41,⟨.true,y8,.true,32,[(0,1),(1,1),(2,1),(3,1)],.true,[(some .false),(some .false),(some .false),(some .false)],none,[]⟩),(42,⟨.true,y8,.true,32,[(0,1),(1,1),(2,1),(3,1)],.true,[(some .false),(some .false),(some .false),(some .false)],none,[]⟩),(43,⟨.true,y6,.true,16,[(0,1),(1,1)],.true,[(some .false),(some .false)],none,[]⟩),(44,⟨.true,y6,.true,16,[(0,1),(1,1)],.true,[(some .false),(some .false)],none,[]⟩),(45,⟨.true,y18,.true,80,[(0,4),(4,4),(8,2)],.true,[(some .true),(some .true),(some .true)],none,[]⟩),(46,⟨.true,y18,.true,80,[(0,4),(4,4),(8,2)],.true,[(some .true),(some .true),(some .true)],none,[]⟩),(47,⟨.true,.func,.false,8,[],.false,[],none,[]⟩),(48,⟨.true,y20,.false,24,[],.false,[],none,[]⟩),(49,⟨.true,y28,.false,104,[],.false,[],none,[]⟩),(50,⟨.true,y29,.true,48,[(0,1),(1,1)],.false,[(some .false),(some .false)],none,[]⟩),(51,⟨.true,y29,.true,48,[(0,1),(1,1)],.false,[(some .false),(some .false)],none,[]⟩),(52,⟨.true,.func,.false,8,[],.false,[],none,[]⟩),(53,⟨.true,y27,.true,104,[(0,1),(1,1),(2,3),(5,1),(6,1),(7,1),(8,1),(9,1),(10,1),(11,1),(12,1)],.true,[(some .false),(some .false),(some .true),(some .false),(some .false),(some .false),(some .false),(some .false),(some .false),(some .false),(some .false)],none,[]⟩),(54,⟨.true,y27,.true,104,[(0,1),(1,1),(2,3),(5,1),(6,1),(7,1),(8,1),(9,1),(10,1),(11,1),(12,1)],.true,[(some .false),(some .false),(some .true),(some .false),(some .false),(some .false),(some .false),(some .false),(some .false),(some .false),(some .false)],none,[]⟩),(55,⟨.true,y30,.false,32,[],.false,[],none,[]⟩),(56,⟨.true,.int .i64,.false,8,[],.false,[],none,[]⟩),(57,⟨.true,.other,.false,0,[],.false,[],none,[]⟩),(58,⟨.true,.func,.false,8,[],.false,[],none,[]⟩),(59,⟨.true,.func,.false,8,[],.false,[],none,[]⟩),(60,⟨.true,y33,.true,304,[(0,17),(17,10),(27,2),(29,1)],.false,[(some .true),(some .true),(some .true),(some .false)],none,[]⟩),(61,⟨.true,y33,.true,304,[(0,17),(17,10),(27,2),(29,1)],.false,[(some .true),(some .true),(some .true),(some .false)],none,[]⟩),(62,⟨.true,.func,.false,8,[],.false,[],none,[]⟩),(63,⟨.true,.func,.false,8,[],.false,[],none,[]⟩),(64,⟨.true,.func,.false,8,[],.false,[],none,[]⟩),(65,⟨.true,y34,.false,1,[],.false,[],none,[]⟩),(66,⟨.true,y19,.true,24,[(0,1),(1,1)],.true,[(some .false),(some .false)],none,[]⟩),(67,⟨.true,y19,.true,24,[(0,1),(1,1)],.true,[(some .false),(some .false)],none,[]⟩),(68,⟨.true,y8,.true,32,[(0,1),(1,1),(2,1),(3,1)],.true,[(some .false),(some .false),(some .false),(some .false)],none,[]⟩),(69,⟨.true,y8,.true,32,[(0,1),(1,1),(2,1),(3,1)],.true,[(some .false),(some .false),(some .false),(some .false)],none,[]⟩),(70,⟨.true,.func,.false,8,[],.false,[],none,[]⟩),(71,⟨.true,.other,.false,8,[],.false,[],(some (.int .i64,.int .i64)),[]⟩),(72,⟨.true,.other,.false,0,[],.false,[],none,[]⟩),(73,⟨.true,.func,.false,8,[],.false,[],none,[]⟩),(74,⟨.true,.other,.false,0,[],.false,[],none,[]⟩),(75,⟨.true,.func,.false,8,[],.false,[],none,[]⟩),(76,⟨.true,.other,.false,0,[],.false,[],none,[]⟩),(77,⟨.true,.func,.false,8,[],.false,[],none,[]⟩),(78,⟨.true,y35,.false,24,[],.false,[],none,[]⟩),(79,⟨.true,y37,.true,48,[(0,1),(1,2),(3,1)],.false,[(some .false),(some .true),(some .false)],none,[]⟩),(80,⟨.true,y37,.true,48,[(0,1),(1,2),(3,1)],.false,[(some .false),(some .true),(some .false)],none,[]⟩),(81,⟨.true,.other,.false,0,[],.false,[],none,[]⟩),(82,⟨.true,.func,.false,8,[],.false,[],none,[]⟩),(83,⟨.true,.func,.false,8,[],.false,[],none,[]⟩),(84,⟨.true,.func,.false,8,[],.false,[],none,[]⟩),(85,⟨.true,.func,.false,8,[],.false,[],none,[]⟩),(86,⟨.true,y39,.false,24,[],.false,[],none,[]⟩),(87,⟨.true,y43,.true,328,[(0,17),(17,10),(27,2),(29,1),(30,1)],.false,[(some .true),(some .true),(some .true),(some .false),(some .false)],none,[]⟩),(88,⟨.true,y43,.true,328,[(0,17),(17,10),(27,2),(29,1),(30,1)],.false,[(some .true),(some .true),(some .true),(some .false),(some .false)],none,[]⟩),(89,⟨.true,.other,.false,0,[],.false,[],none,[]⟩),(90,⟨.true,.func,.false,8,[],.false,[],none,[]⟩),(91,⟨.true,y47,.false,48,[],.false,[],none,[]⟩),(92,⟨.true,.other,.false,0,[],.false,[],none,[]⟩),(93,⟨.true,.func,.false,8,[],.false,[],none,[]⟩),(94,⟨.true,.func,.false,8,[],.false,[],none,[]⟩),(95,⟨.true,y46,.true,48,[(0,1),(1,1),(2,2),(4,2)],.true,[(some .false),(some .false),(some .true),(some .true)],none,[]⟩),(96,⟨.true,y46,.true,48,[(0,1),(1,1),(2,2),(4,2)],.true,[(some .false),(some .false),(some .true),(some .true)],none,[]⟩),(97,⟨.true,.other,.false,0,[],.false,[],none,[]⟩),(98,⟨.true,.func,.false,8,[],.false,[],none,[]⟩),(99,⟨.true,.func,.false,8,[],.false,[],none,[]⟩),(100,⟨.true,.func,.false,8,[],.false,[],none,[]⟩),(101,⟨.true,y48,.false,56,[],.false,[],none,[]⟩),(102,⟨.true,.other,.false,0,[],.false,[],none,[]⟩),(103,⟨.true,.func,.false,8,[],.false,[],none,[]⟩),(104,⟨.true,.func,.false,8,[],.false,[],none,[]⟩),(105,⟨.true,y23,.true,56,[(0,1),(1,1),(2,1),(3,1),(4,1),(5,1),(6,1)],.true,[(some .false),(some .false),(some .false),(some .false),(some .false),(some .false),(some .false)],none,[]⟩),(106,⟨.true,y23,.true,56,[(0,1),(1,1),(2,1),(3,1),(4,1),(5,1),(6,1)],.true,[(some .false),(some .false),(some .false),(some .false),(some .false),(some .false),(some .false)],none,[]⟩),(107,⟨.true,.func,.false,8,[],.false,[],none,[]⟩),(108,⟨.true,.func,.false,8,[],.false,[],none,[]⟩),(109,⟨.true,.func,.false,8,[],.false,[],none,[]⟩),(110,⟨.true,.ptr,.false,8,[],.false,[],none,[]⟩),(111,⟨.true,.other,.false,8,[],.false,[],none,[]⟩),(112,⟨.true,.other,.false,0,[],.false,[],none,[]⟩),(113,⟨.true,.func,.false,8,[],.false,[],none,[]⟩),(114,⟨.true,.func,.false,8,[],.false,[],none,[]⟩),(115,⟨.true,.func,.false,8,[],.false,[],none,[]⟩),(116,⟨.true,y38,.false,16,[],.false,[],none,[]⟩),(117,⟨.true,.func,.false,8,[],.false,[],none,[]⟩),(118,⟨.true,.func,.false,8,[],.false,[],none,[]⟩),(119,⟨.true,.func,.false,8,[],.false,[],none,[]⟩),(120,⟨.true,.func,.false,8,[],.false,[],none,[]⟩),(121,⟨.true,.func,.false,8,[],.false,[],none,[]⟩),(122,⟨.true,.func,.false,8,[],.false,[],none,[]⟩),(123,⟨.true,.ptr,.false,8,[],.false,[],none,[]⟩),(124,⟨.true,.func,.false,8,[],.false,[],none,[]⟩),(125,⟨.true,.func,.false,8,[],.false,[],none,[]⟩),(126,⟨.true,.func,.false,8,[],.false,[],none,[]⟩),(127,⟨.true,.func,.false,8,[],.false,[],none,[]⟩),(128,⟨.true,y38,.false,16,[],.false,[],none,[]⟩),(129,⟨.true,.other,.false,0,[],.false,[],none,[]⟩),(130,⟨.true,.func,.false,8,[],.false,[],none,[]⟩),(131,⟨.true,y6,.true,16,[(0,1),(1,1)],.true,[(some .false),(some .false)],none,[]⟩),(132,⟨.true,y6,.true,16,[(0,1),(1,1)],.true,[(some .false),(some .false)],none,[]⟩),(133,⟨.true,.func,.false,8,[],.false,[],none,[]⟩),(134,⟨.true,.func,.false,8,[],.false,[],none,[]⟩),(135,⟨.true,.func,.false,8,[],.false,[],none,[]⟩),(136,⟨.true,.func,.false,8,[],.false,[],none,[]⟩),(137,⟨.true,.func,.false,8,[],.false,[],none,[]⟩),(138,⟨.true,.other,.false,0,[],.false,[],none,[]⟩),(139,⟨.true,.func,.false,8,[],.false,[],none,[]⟩),(140,⟨.true,.other,.false,0,[],.false,[],none,[]⟩),(141,⟨.true,.func,.false,8,[],.false,[],none,[]⟩),(142,⟨.true,y38,.false,16,[],.false,[],none,[]⟩),(143,⟨.true,.func,.false,8,[],.false,[],none,[]⟩),(144,⟨.true,.other,.false,0,[],.false,[],none,[]⟩),(145,⟨.true,.func,.false,8,[],.false,[],none,[]⟩),(146,⟨.true,.func,.false,8,[],.false,[],none,[]⟩),(147,⟨.true,.func,.false,8,[],.false,[],none,[]⟩),(148,⟨.true,.other,.false,0,[],.false,[],none,[]⟩),(149,⟨.true,.func,.false,8,[],.false,[],none,[]⟩),(150,⟨.true,.func,.false,8,[],.false,[],none,[]⟩),(151,⟨.true,.func,.false,8,[],.false,[],none,[]⟩),(152,⟨.true,.ptr,.false,8,[],.false,[],none,[]⟩),(153,⟨.true,.func,.false,8,[],.false,[],none,[]⟩),(154,⟨.true,y54,.true,552,[(0,31),(31,17),(48,2),(50,1)],.false,[(some .true),(some .true),(some .true),(some .false)],none,[]⟩),(155,⟨.true,y54,.true,552,[(0,31),(31,17),(48,2),(50,1)],.false,[(some .true),(some .true),(some .true),(some .false)],none,[]⟩),(156,⟨.true,.other,.false,0,[],.false,[],none,[]⟩),(157,⟨.true,.func,.false,8,[],.false,[],none,[]⟩),(158,⟨.true,.func,.false,8,[],.false,[],none,[]⟩),(159,⟨.true,.func,.false,8,[],.false,[],none,[]⟩),(160,⟨.true,.func,.false,8,[],.false,[],none,[]⟩),(161,⟨.true,.func,.false,8,[],.false,[],none,[]⟩),(162,⟨.true,.ptr,.false,8,[],.false,[],none,[]⟩),(163,⟨.true,y59,.true,376,[(0,17),(17,10),(27,2),(29,4),(33,1),(34,1)],.false,[(some .true),(some .true),(some .true),(some .true),(some .false),(some .false)],none,[]⟩),(164,⟨.true,y59,.true,376,[(0,17),(17,10),(27,2),(29,4),(33,1),(34,1)],.false,[(some .true),(some .true),(some .true),(some .true),(some .false),(some .false)],none,[]⟩),(165,⟨.true,.func,.false,8,[],.false,[],none,[]⟩),(166,⟨.true,.func,.false,8,[],.false,[],none,[]⟩),(167,⟨.true,.func,.false,8,[],.false,[],none,[]⟩),(168,⟨.true,.int .u64,.false,8,[],.false,[],none,[]⟩),(169,⟨.true,.func,.false,8,[],.false,[],none,[]⟩),(170,⟨.true,.func,.false,8,[],.false,[],none,[]⟩),(171,⟨.true,.func,.false,8,[],.false,[],none,[]⟩),(172,⟨.true,.func,.false,8,[],.false,[],none,[]⟩),(173,⟨.true,y61,.true,24,[(0,1),(1,1),(2,1)],.true,[(some .false),(some .false),(some .false)],none,[]⟩),(174,⟨.true,y61,.true,24,[(0,1),(1,1),(2,1)],.true,[(some .false),(some .false),(some .false)],none,[]⟩),(175,⟨.true,.func,.false,8,[],.false,[],none,[]⟩),(176,⟨.true,.func,.false,8,[],.false,[],none,[]⟩),(177,⟨.true,.other,.false,0,[],.false,[],none,[]⟩),(178,⟨.true,.func,.false,8,[],.false,[],none,[]⟩),(179,⟨.true,.func,.false,8,[],.false,[],none,[]⟩),(180,⟨.true,.func,.false,8,[],.false,[],none,[]⟩),(181,⟨.true,.func,.false,8,[],.false,[],none,[]⟩),(182,⟨.true,.other,.false,0,[],.false,[],none,[]⟩),(183,⟨.true,.func,.false,8,[],.false,[],none,[]⟩),(184,⟨.true,.func,.false,8,[],.false,[],none,[]⟩),(185,⟨.true,.other,.false,8,[],.false,[],(some (.str,.bool)),[]⟩),(186,⟨.true,.func,.false,8,[],.false,[],none,[]⟩),(187,⟨.true,.other,.false,8,[],.false,[],(some (.int .i64,.bool)),[]⟩),(188,⟨.true,.func,.false,8,[],.false,[],none,[]⟩),(189,⟨.true,.other,.false,0,[],.false,[],none,[]⟩),(190,⟨.true,.func,.false,8,[],.false,[],none,[]⟩),(191,⟨.true,.func,.false,8,[],.false,[],none,[]⟩),(192,⟨.true,.func,.false,8,[],.false,[],none,[]⟩),(193,⟨.true,.other,.false,0,[],.false,[],none,[]⟩),(194,⟨.true,.func,.false,8,[],.false,[],none,[]⟩),(195,⟨.true,.func,.false,8,[],.false,[],none,[]⟩),(196,⟨.true,.func,.false,8,[],.false,[],none,[]⟩),(197,⟨.true,y62,.false,24,[],.false,[],none,[]⟩),(198,⟨.true,.func,.false,8,[],.false,[],none,[]⟩),(199,⟨.true,.func,.false,8,[],.false,[],none,[]⟩),(200,⟨.true,.func,.false,8,[],.false,[],none,[]⟩),(201,⟨.true,.func,.false,8,[],.false,[],none,[]⟩),(202,⟨.true,y61,.true,24,[(0,1),(1,1),(2,1)],.true,[(some .false),(some .false),(some .false)],none,[]⟩),(203,⟨.true,y61,.true,24,[(0,1),(1,1),(2,1)],.true,[(some .false),(some .false),(some .false)],none,[]⟩),(204,⟨.true,.func,.false,8,[],.false,[],none,[]⟩),(205,⟨.true,y61,.true,24,[(0,1),(1,1),(2,1)],.true,[(some .false),(some .false),(some .false)],none,[]⟩),(206,⟨.true,y61,.true,24,[(0,1),(1,1),(2,1)],.true,[(some .false),(some .false),(some .false)],none,[]⟩),(207,⟨.true,.func,.false,8,[],.false,[],none,[]⟩),(208,⟨.true,.func,.false,8,[],.false,[],none,[]⟩),(209,⟨.true,.func,.false,8,[],.false,[],none,[]⟩),(210,⟨.true,y63,.false,4,[],.false,[],none,[]⟩),(211,⟨.true,y64,.true,32,[(0,1),(1,1)],.false,[(some .false),(some .false)],none,[]⟩),(212,⟨.true,y64,.true,32,[(0,1),(1,1)],.false,[(some .false),(some .false)],none,[]⟩),(213,⟨.true,.func,.false,8,[],.false,[],none,[]⟩),(214,⟨.true,.func,.false,8,[],.false,[],none,[]⟩),(215,⟨.true,.func,.false,8,[],.false,[],none,[]⟩),(216,⟨.true,.func,.false,8,[],.false,[],none,[]⟩),(217,⟨.true,.ptr,.false,8,[],.false,[],none,[("Len",113),("Less",241),("Pop",242),("Push",243),("Swap",244)]⟩),(218,⟨.true,y66,.true,376,[(0,31),(31,1),(32,1)],.false,[(some .true),(some .false),(some .false)],none,[]⟩),(219,⟨.true,y66,.true,376,[(0,31),(31,1),(32,1)],.false,[(some .true),(some .false),(some .false)],none,[]⟩),(220,⟨.true,.func,.false,8,[],.false,[],none,[]⟩),(221,⟨.true,.func,.false,8,[],.false,[],none,[]⟩),(222,⟨.true,.func,.false,8,[],.false,[],none,[]⟩),(223,⟨.true,.func,.false,8,[],.false,[],none,[]⟩),(224,⟨.true,.func,.false,8,[],.false,[],none,[]⟩),(225,⟨.true,.func,.false,8,[],.false,[],none,[]⟩),(226,⟨.true,.func,.false,8,[],.false,[],none,[]⟩),(227,⟨.true,.func,.false,8,[],.false,[],none,[]⟩),(228,⟨.true,.func,.false,8,[],.false,[],none,[]⟩),(229,⟨.true,.func,.false,8,[],.false,[],none,[]⟩),(230,⟨.true,.func,.false,8,[],.false,[],none,[]⟩),(231,⟨.true,.other,.false,0,[],.false,[],none,[]⟩),(232,⟨.true,.func,.false,8,[],.false,[],none,[]⟩),(233,⟨.true,.func,.false,8,[],.false,[],none,[]⟩),(234,⟨.true,.func,.false,8,[],.false,[],none,[]⟩),(235,⟨.true,.other,.false,0,[],.false,[],none,[]⟩),(236,⟨.true,.func,.false,8,[],.false,[],none,[]⟩),(237,⟨.true,.other,.false,0,[],.false,[],none,[]⟩),(238,⟨.true,.func,.false,8,[],.false,[],none,[]⟩),(239,⟨.true,.func,.false,8,[],.false,[],none,[]⟩),(240,⟨.true,.func,.false,8,[],.false,[],none,[]⟩),(241,⟨.true,.func,.false,8,[],.false,[],none,[]⟩),(242,⟨.true,.func,.false,8,[],.false,[],none,[]⟩),(243,⟨.true,.func,.false,8,[],.false,[],none,[]⟩),(244,⟨.true,.func,.false,8,[],.false,[],none,[]⟩),(245,⟨.true,.func,.false,8,[],.false,[],none,[]⟩),(246,⟨.true,.func,.false,8,[],.false,[],none,[]⟩),(247,⟨.true,.func,.false,8,[],.false,[],none,[]⟩),(248,⟨.true,.func,.false,8,[],.false,[],none,[]⟩),(249,⟨.true,.func,.false,8,[],.false,[],none,[]⟩),(250,⟨.true,.func,.false,8,[],.false,[],none,[]⟩),(251,⟨.true,.func,.false,8,[],.false,[],none,[]⟩),(252,⟨.true,.func,.false,8,[],.false,[],none,[]⟩),(253,⟨.true,.other,.false,0,[],.false,[],none,[]⟩),(254,⟨.true,.func,.false,8,[],.false,[],none,[]⟩),(255,⟨.true,.func,.false,8,[],.false,[],none,[]⟩),(256,⟨.true,.func,.false,8,[],.false,[],none,[]⟩),(257,⟨.true,.func,.false,8,[],.false,[],none,[]⟩),(258,⟨.true,.func,.false,8,[],.false,[],none,[]⟩),(259,⟨.true,.func,.false,8,[],.false,[],none,[]⟩),(260,⟨.true,.func,.false,8,[],.false,[],none,[]⟩),(261,⟨.true,.other,.false,0,[],.false,[],none,[]⟩),(262,⟨.true,.func,.false,8,[],.false,[],none,[]⟩),(263,⟨.true,.func,.false,8,[],.false,[],none,[]⟩),(264,⟨.true,.func,.false,8,[],.false,[],none,[]⟩),(265,⟨.true,.other,.false,16,[],.false,[],none,[]⟩),(266,⟨.true,.other,.false,16,[],.false,[],none,[]⟩),(267,⟨.true,.func,.false,8,[],.false,[],none,[]⟩),(268,⟨.true,.func,.false,8,[],.false,[],none,[]⟩),(269,⟨.true,.func,.false,8,[],.false,[],none,[]⟩),(270,⟨.true,.func,.false,8,[],.false,[],none,[]⟩),(271,⟨.true,.func,.false,8,[],.false,[],none,[]⟩),(272,⟨.true,.func,.false,8,[],.false,[],none,[]⟩),(273,⟨.true,.func,.false,8,[],.false,[],none,[]⟩),(274,⟨.true,y4,.false,8,[],.false,[],none,[]⟩),(275,⟨.true,.func,.false,8,[],.false,[],none,[]⟩),(276,⟨.true,.func,.false,8,[],.false,[],none,[]⟩),(277,⟨.true,.func,.false,8,[],.false,[],none,[]⟩),(278,⟨.true,.int .u64,.false,8,[],.false,[],none,[]⟩),(279,⟨.true,y67,.true,16,[(0,1),(1,1)],.true,[(some .false),(some .false)],none,[]⟩),(280,⟨.true,y67,.true,16,[(0,1),(1,1)],.true,[(some .false),(some .false)],none,[]⟩),(281,⟨.true,.func,.false,8,[],.false,[],none,[]⟩),(282,⟨.true,.func,.false,8,[],.false,[],none,[]⟩),(283,⟨.true,.func,.false,8,[],.false,[],none,[]⟩),(284,⟨.true,.func,.false,8,[],.false,[],none,[]⟩),(285,⟨.true,.func,.false,8,[],.false,[],none,[]⟩),(286,⟨.true,.func,.false,8,[],.false,[],none,[]⟩),(287,⟨.true,.func,.false,8,[],.false,[],none,[]⟩),(288,⟨.true,.func,.false,8,[],.false,[],none,[]⟩),(289,⟨.true,.func,.false,8,[],.false,[],none,[]⟩),(290,⟨.true,.func,.false,8,[],.false,[],none,[]⟩),(291,⟨.true,.func,.false,8,[],.false,[],none,[]⟩),(292,⟨.true,.func,.false,8,[],.false,[],none,[]⟩),(293,⟨.true,.func,.false,8,[],.false,[],none,[]⟩),(294,⟨.true,.int .u32,.false,4,[],.false,[],none,[]⟩),(295,⟨.true,.func,.false,8,[],.false,[],none,[]⟩),(296,⟨.true,.func,.false,8,[],.false,[],none,[]⟩),(297,⟨.true,.func,.false,8,[],.false,[],none,[]⟩),(298,⟨.true,.func,.false,8,[],.false,[],none,[]⟩),(299,⟨.true,.func,.false,8,[],.false,[],none,[]⟩),(300,⟨.true,.func,.false,8,[],.false,[],none,[]⟩),(301,⟨.true,.other,.false,0,[],.false,[],none,[]⟩),(302,⟨.true,.func,.false,8,[],.false,[],none,[]⟩),(303,⟨.true,.func,.false,8,[],.false,[],none,[]⟩),(304,⟨.true,.func,.false,8,[],.false,[],none,[]⟩),(305,⟨.true,.func,.false,8,[],.false,[],none,[]⟩),(306,⟨.true,.func,.false,8,[],.false,[],none,[]⟩),(307,⟨.true,.func,.false,8,[],.false,[],none,[]⟩),(308,⟨.true,.func,.false,8,[],.false,[],none,[]⟩),(309,⟨.true,y4,.false,8,[],.false,[],none,[]⟩),(310,⟨.true,.func,.false,8,[],.false,[],none,[]⟩),(311,⟨.true,.func,.false,8,[],.false,[],none,[]⟩),(312,⟨.true,.func,.false,8,[],.false,[],none,[]⟩),(313,⟨.true,.func,.false,8,[],.false,[],none,[]⟩),(314,⟨.true,.func,.false,8,[],.false,[],none,[]⟩),(315,⟨.true,.func,.false,8,[],.false,[],none,[]⟩),(316,⟨.true,.func,.false,8,[],.false,[],none,[]⟩),(317,⟨.true,.func,.false,8,[],.false,[],none,[]⟩),(318,⟨.true,.func,.false,8,[],.false,[],none,[]⟩),(319,⟨.true,y4,.false,8,[],.false,[],none,[]⟩),(320,⟨.true,.func,.false,8,[],.false,[],none,[]⟩),(321,⟨.true,.func,.false,8,[],.false,[],none,[]⟩),(322,⟨.true,.func,.false,8,[],.false,[],none,[]⟩),(323,⟨.true,.other,.false,16,[],.false,[],none,[]⟩),(324,⟨.true,.other,.false,16,[],.false,[],none,[]⟩),(325,⟨.true,.func,.false,8,[],.false,[],none,[]⟩),(326,⟨.true,.ptr,.false,8,[],.false,[],none,[]⟩),(327,⟨.true,y70,.true,40,[(0,1),(1,1),(2,1),(3,1)],.false,[(some .false),(some .false),(some .false),(some .false)],none,[]⟩),(328,⟨.true,y70,.true,40,[(0,1),(1,1),(2,1),(3,1)],.false,[(some .false),(some .false),(some .false),(some .false)],none,[]⟩),(332,⟨.true,.int .u8,.false,1,[],.false,[],none,[]⟩),(333,⟨.true,.int .u8,.false,1,[],.false,[],none,[]⟩),(334,⟨.true,.func,.false,8,[],.false,[],none,[]⟩),(335,⟨.true,.ptr,.false,8,[],.false,[],none,[]⟩),(336,⟨.true,.int .i32,.false,4,[],.false,[],none,[]⟩),(337,⟨.true,.int .i32,.false,4,[],.false,[],none,[]⟩),(338,⟨.true,y80,.true,48,[(0,1),(1,1),(2,1),(3,1),(4,1),(5,1),(6,1),(7,1),(8,1),(9,1),(10,1)],.false,[(some .false),(some .false),(some .false),(some .false),(some .false),(some .false),(some .false),(some .false),(some .false),(some .false),(some .false)],none,[]⟩),(339,⟨.true,y80,.true,48,[(0,1),(1,1),(2,1),(3,1),(4,1),(5,1),(6,1),(7,1),(8,1),(9,1),(10,1)],.false,[(some .false),(some .false),(some .false),(some .false),(some .false),(some .false),(some .false),(some .false),(some .false),(some .false),(some .false)],none,[]⟩),(340,⟨.true,.pair .str .unit,.true,16,[(0,1)],.true,[(some .false)],none,[]⟩),(341,⟨.true,.pair .str .unit,.true,16,[(0,1)],.true,[(some .false)],none,[]⟩),(342,⟨.true,.other,.false,8,[],.false,[],none,[]⟩)]
theorem tis_ok:tisOk Tryz.prog tis = true:=by kernel_rfl
def modes:List (Nat × List (Nat × Ty)):=[(17,[(1,y81)]),(18,[(0,y16),(2,y29)]),(21,[(0,y29)]),(22,[(0,y29)]),(23,[(0,y16)]),(24,[(0,y16)]),(25,[(0,y16),(2,y29),(3,y30)]),(26,[(0,y16),(2,y29),(3,y37)]),(27,[(0,y30),(1,y30)]),(28,[(0,y16),(2,y29),(3,y37)]),(29,[(0,y16),(2,y29)]),(30,[(0,y43),(1,y37)]),(31,[(0,y29),(1,y37)]),(32,[(0,y43)]),(33,[(0,y43)]),(35,[(0,y16),(2,y29),(3,y30)]),(36,[(0,y16),(2,y29),(3,y30)]),(37,[(0,y30)]),(39,[(0,y48)]),(40,[(0,y30)]),(48,[(1,y81)]),(49,[(1,y29)]),(50,[(0,y20)]),(51,[(0,y28)]),(52,[(0,y16)]),(53,[(0,y16)]),(54,[(0,y16)]),(55,[(0,y43),(1,y30)]),(58,[(0,y16),(2,y29)]),(59,[(0,y4)]),(60,[(0,y16)]),(61,[(0,y16)]),(62,[(0,y43),(1,y37)]),(63,[(0,y43),(1,y37)]),(64,[(0,y43),(1,y4)]),(65,[(0,y29)]),(66,[(0,y43),(1,y37)]),(67,[(0,y37)]),(68,[(0,y43)]),(69,[(0,y48),(1,y48)]),(70,[(0,y16),(2,y29),(3,y30)]),(72,[(1,y37)]),(73,[(0,y48)]),(74,[(0,y30)]),(77,[(1,y4)]),(78,[(0,y62)]),(79,[(0,y16)]),(81,[(0,y16)]),(83,[(0,y16)]),(86,[(1,y37)]),(90,[(0,y43),(1,y37)]),(91,[(1,y16)]),(95,[(0,y16)]),(96,[(0,y16)]),(97,[(0,y48)]),(98,[(1,y37)]),(99,[(0,y4)]),(100,[(0,y82)]),(105,[(0,y16)]),(109,[(0,y64),(1,y64)]),(111,[(0,y64),(1,y64)]),(119,[(0,y4)]),(132,[(0,y16)]),(133,[(0,y28)]),(135,[(0,y4)]),(157,[(0,y64),(1,y64)]),(159,[(0,y64)]),(160,[(0,y63),(1,y63)]),(191,[(0,y64)]),(199,[(1,y4)]),(203,[(0,y4)]),(207,[(0,y4)]),(208,[(0,y4)])]
variable {ι:Type} {E:Fil ι}
noncomputable def t0:Tb Tryz.prog:=⟨fun _=>tnil,fun _ g=>tnil_ok g⟩
abbrev ty0:Ty:=((Ty.int .i64).pair ((Ty.int .i64).pair (((Ty.int .i64).pair ((Ty.int .i64).pair (Ty.int .i64))).pair ((Ty.int .i64).pair ((Ty.int .i64).pair ((Ty.int .i64).pair ((Ty.int .i64).pair ((Ty.int .i64).pair ((Ty.int .i64).pair ((Ty.int .i64).pair (Ty.int .i64)))))))))))
abbrev ty1:Ty:=((Ty.int .i64).pair ((Ty.int .i64).pair (((Ty.int .i64).pair (Ty.int .i64)).pair ((Ty.int .i64).pair (Ty.int .i64)))))
abbrev ty2:Ty:=((Ty.int .i64).pair ((Ty.int .i64).pair ((Ty.int .i64).pair (Ty.int .i64))))
def bs0:ByteArray:=ByteArray.mk ((([0,1,2,2,3,3,3,3,4,4,4,4,4,4,4,4,5,5,5,5,5,5,5,5,5,5,5,5,5,5,5,5,6,6,6,6,6,6,6,6,6,6,6,6,6,6,6,6,6,6,6,6,6,6,6,6,6,6,6,6,6,6,6,6].append [7,7,7,7,7,7,7,7,7,7,7,7,7,7,7,7,7,7,7,7,7,7,7,7,7,7,7,7,7,7,7,7,7,7,7,7,7,7,7,7,7,7,7,7,7,7,7,7,7,7,7,7,7,7,7,7,7,7,7,7,7,7,7,7]).append ([8,8,8,8,8,8,8,8,8,8,8,8,8,8,8,8,8,8,8,8,8,8,8,8,8,8,8,8,8,8,8,8,8,8,8,8,8,8,8,8,8,8,8,8,8,8,8,8,8,8,8,8,8,8,8,8,8,8,8,8,8,8,8,8].append [8,8,8,8,8,8,8,8,8,8,8,8,8,8,8,8,8,8,8,8,8,8,8,8,8,8,8,8,8,8,8,8,8,8,8,8,8,8,8,8,8,8,8,8,8,8,8,8,8,8,8,8,8,8,8,8,8,8,8,8,8,8,8,8])).toArray)
def bs1:ByteArray:=ByteArray.mk (#[97])
def bs2:ByteArray:=ByteArray.mk (#[97,98,57,45,122,48])
namespace g0 -- plan_Start
abbrev R:Type:=Int × Int × Int × List (List Int)
abbrev A:Type:=Int × Int × Int × Int × Int × Int × Int × Int × Int × Int × List (ByteArray × Int) × List (Int × Int × (Int × Int × Int) × Int × Int × Int × Int × Int × Int × Int × Int)
abbrev Y:=A→Option R
def lv:List (Nat × List Nat):=[(3000000,[10]),(2000000,[4])]
noncomputable def cs:Nat→Ctx:=ctxOf tis modes t0.1 lv
theorem cs_ok (n:Nat):CtxOk Tryz.prog (cs n):=ctxOf_ok rfl tis_ok t0.2 n
def sh:AS:=⟨[.agg [.int .i64,.int .i64,.int .i64,.int .i64,.int .i64,.int .i64,.int .i64,.int .i64,.int .i64,.int .i64],.agg [.frz y19,.frz y27]],[]⟩
def os:OS:=⟨.agg [.int .i64,.int .i64,.int .i64,.sl 128000000],[(.nest y4)]⟩
def enc (r:R):Out:=os.enc r
def dec:Out→Option R:=os.dec
noncomputable def b0:Code:=subF [] Tryz.f49
noncomputable def K0 (k:Nat):Kt R:=kTop (cs k) Tryz.f49 dec
noncomputable def f (k:Nat):Y:=fun v=>held (runFn cs k Tryz.f49 (sh.args v) (sh.slots v) dec)
noncomputable def F:Y:=lm f
def d:Y:=fun (v0,v1,v2,v3,v4,v5,v6,v7,v8,v9,v10,v11) =>
br (decide (0 ≤ (↑v11.length:Int) ∧ (↑v11.length:Int) ≤ (↑v11.length:Int) ∧ (↑v11.length:Int) ≤ (↑(140737488355328 / 24):Int))) (some (0,v8,v9,List.replicate (↑v11.length:Int).toNat (Ty.int .i64).slice.dflt)) none
theorem d_cn:∀ v:A,Cn E (d v) fun i=>d v:=fun (v0,v1,v2,v3,v4,v5,v6,v7,v8,v9,v10,v11)=>(.br .some .none)
theorem f_b (k:Nat):∀ v:A,f k v = d v:=fun (v0,v1,v2,v3,v4,v5,v6,v7,v8,v9,v10,v11)=>(held_eq _).trans (by kernel_rfl)
theorem F_of (v:A) {r:R} (h:d v = some r):F v = some r:=join_of (fun L=>f_b (L 0) v) (d_cn v) h
noncomputable def spec (k:Nat):List AV→List Slot→Option Ans:=specS sh os (f k)
theorem spec_ok (k:Nat):SpecOk Tryz.prog 49 (spec k):=specS_ok cs_ok Tryz.func49 rfl rfl (fun _ _=>held_eq _) k
end g0
noncomputable def tg0:=t0.cons 49 g0.spec g0.spec_ok
namespace g1 -- prop_within
abbrev R:Type:=Bool
abbrev A:Type:=Int × Int × Int
abbrev Y:=A→Option R
def lv:List (Nat × List Nat):=[(2000000,[6])]
noncomputable def cs:Nat→Ctx:=ctxOf tis modes tg0.1 lv
theorem cs_ok (n:Nat):CtxOk Tryz.prog (cs n):=ctxOf_ok rfl tis_ok tg0.2 n
def sh:AS:=⟨[.c (.int .i64),.c (.int .i64),.c (.int .i64)],[]⟩
def os:OS:=⟨.c .bool,[]⟩
def enc (r:R):Out:=os.enc r
def dec:Out→Option R:=os.dec
noncomputable def b0:Code:=subF [] Tryz.f93
noncomputable def K0 (k:Nat):Kt R:=kTop (cs k) Tryz.f93 dec
noncomputable def f (k:Nat):Y:=fun v=>held (runFn cs k Tryz.f93 (sh.args v) (sh.slots v) dec)
noncomputable def F:Y:=lm f
def d:Y:=fun (v0,v1,v2) =>
some (decide (v1 ≤ v0) && decide (v0 ≤ v2))
theorem d_cn:∀ v:A,Cn E (d v) fun i=>d v:=fun (v0,v1,v2)=>.some
theorem f_b (k:Nat):∀ v:A,f k v = d v:=fun (v0,v1,v2)=>(held_eq _).trans (by kernel_rfl)
theorem F_of (v:A) {r:R} (h:d v = some r):F v = some r:=join_of (fun L=>f_b (L 0) v) (d_cn v) h
noncomputable def spec (k:Nat):List AV→List Slot→Option Ans:=specS sh os (f k)
theorem spec_ok (k:Nat):SpecOk Tryz.prog 93 (spec k):=specS_ok cs_ok Tryz.func93 rfl rfl (fun _ _=>held_eq _) k
end g1
noncomputable def tg1:=tg0.cons 93 g1.spec g1.spec_ok
namespace g2 -- num_size
abbrev R:Type:=Int
abbrev A:Type:=Int
abbrev Y:=A→Option R
def lv:List (Nat × List Nat):=[(2000000,[2])]
noncomputable def cs:Nat→Ctx:=ctxOf tis modes tg1.1 lv
theorem cs_ok (n:Nat):CtxOk Tryz.prog (cs n):=ctxOf_ok rfl tis_ok tg1.2 n
def sh:AS:=⟨[(.c (.int .i64))],[]⟩
def os:OS:=⟨.c (.int .u64),[]⟩
def enc (r:R):Out:=os.enc r
def dec:Out→Option R:=os.dec
noncomputable def b0:Code:=subF [] Tryz.f201
noncomputable def K0 (k:Nat):Kt R:=kTop (cs k) Tryz.f201 dec
noncomputable def f (k:Nat):Y:=fun v=>held (runFn cs k Tryz.f201 (sh.args v) (sh.slots v) dec)
noncomputable def F:Y:=lm f
def d:Y:=fun v0 =>
br (decide (v0 < 0)) (some (wrap .u64 (0 - wrap .u64 v0))) (some (wrap .u64 v0))
theorem d_cn:∀ v:A,Cn E (d v) fun i=>d v:=fun v0=>(.br .some .some)
theorem f_b (k:Nat):∀ v:A,f k v = d v:=fun v0=>(held_eq _).trans (by kernel_rfl)
theorem F_of (v:A) {r:R} (h:d v = some r):F v = some r:=join_of (fun L=>f_b (L 0) v) (d_cn v) h
noncomputable def spec (k:Nat):List AV→List Slot→Option Ans:=specS sh os (f k)
theorem spec_ok (k:Nat):SpecOk Tryz.prog 201 (spec k):=specS_ok cs_ok Tryz.func201 rfl rfl (fun _ _=>held_eq _) k
end g2
noncomputable def tg2:=tg1.cons 201 g2.spec g2.spec_ok
namespace g3 -- num_Gcd
abbrev R:Type:=Int
abbrev A:Type:=Int × Int
abbrev Y:=A→Option R
def lv:List (Nat × List Nat):=[(2000000,[4]),(2,[5,6])]
noncomputable def cs:Nat→Ctx:=ctxOf tis modes tg2.1 lv
theorem cs_ok (n:Nat):CtxOk Tryz.prog (cs n):=ctxOf_ok rfl tis_ok tg2.2 n
def sh:AS:=⟨[.c (.int .i64),.c (.int .i64)],[]⟩
def os:OS:=⟨.c (.int .i64),[]⟩
def enc (r:R):Out:=os.enc r
def dec:Out→Option R:=os.dec
noncomputable def b0:Code:=subF [] Tryz.f195
noncomputable def K0 (k:Nat):Kt R:=kTop (cs k) Tryz.f195 dec
noncomputable def b2:Code:=sub [1,1,0,0,0] b0
noncomputable def K2 ( k:Nat):Kt R:=kAt (cs k) (loopN cs k) [1,1,0,0] b0 (K0 k)
abbrev T0:Type:=Int × Int
abbrev Y0:=T0→Option R
def s0:T0→St:=fun (v0,v1)=>⟨20,0,[(5,.c (.int .u64 v0)),(6,.c (.int .u64 v1))],[],[(256000000,.gone)]⟩
noncomputable def l0 ( k n:Nat) (v:T0):Option R:=held (loopN cs n b2 (K2 k) (s0 v))
noncomputable def D0 (v:T0):Option R:=lim fun L=>l0 (L 0) (L 1) v
theorem D0_cn (v:T0):Cn late (D0 v) fun L=>l0 (L 0) (L 1) v:=of_lim
def d0 (p0:Y0):Y0:=fun (v0,v1) =>
br (decide (0 < v1)) (br (!decide (v1 = 0)) (p0 (v1,v0.tmod v1)) none) (some (wrap .i64 (bAnn .u64 v0 9223372036854775808)))
theorem d0_cn (k0:Pr E T0 R):∀ v:T0,Cn E (d0 k0.p v) fun i=>d0 (k0.q i) v:=fun (v0,v1)=>(.br (.br (k0.h _) .none) .some)
theorem l0_b ( k m1:Nat):∀ v:T0,run (cs m1) (loopN cs m1) b2 (kLoop cs m1 b2 (K2 k)) (s0 v) = d0 (l0 k m1) v:=fun (v0,v1)=>by kernel_rfl
theorem D0_of (v:T0) {r:R} (h:d0 D0 v = some r):D0 v = some r:=loop_of 1 (fun L n hn=>by show l0 (L 0) (L 1) v = _; rw [hn]; exact (held_eq _).trans ((loopN_succ _ _ _ _ _).trans (l0_b (L 0) n v))) (d0_cn (.mk fun v=>(D0_cn v).re [0,1]) v) h
noncomputable def f (k:Nat):Y:=fun v=>held (runFn cs k Tryz.f195 (sh.args v) (sh.slots v) dec)
noncomputable def F:Y:=lm f
def d (p0:g2.Y) (p1:Y0):Y:=fun (v0,v1) =>
bnd (p0 v0) fun r=>bnd (p0 v1) fun r_1=>p1 (r,r_1)
theorem d_cn (k0:Pr E g2.A g2.R) (k1:Pr E T0 R):∀ v:A,Cn E (d k0.p k1.p v) fun i=>d (k0.q i) (k1.q i) v:=fun (v0,v1)=>(.bnd (k0.h _) fun _=>(.bnd (k0.h _) fun _=>(k1.h _)))
theorem f_b (k:Nat):∀ v:A,f k v = d (g2.f k) (l0 k k) v:=fun (v0,v1)=>(held_eq _).trans (by kernel_rfl)
theorem F_of (v:A) {r:R} (h:d g2.F D0 v = some r):F v = some r:=join_of (fun L=>f_b (L 0) v) (d_cn (lp g2.f 0) (.mk fun v=>(D0_cn v).re [0,0]) v) h
noncomputable def spec (k:Nat):List AV→List Slot→Option Ans:=specS sh os (f k)
theorem spec_ok (k:Nat):SpecOk Tryz.prog 195 (spec k):=specS_ok cs_ok Tryz.func195 rfl rfl (fun _ _=>held_eq _) k
end g3
noncomputable def tg3:=tg2.cons 195 g3.spec g3.spec_ok
namespace g4 -- frac_Check
abbrev R:Type:=Int
abbrev A:Type:=Int × Int
abbrev Y:=A→Option R
def lv:List (Nat × List Nat):=[(2000000,[2])]
noncomputable def cs:Nat→Ctx:=ctxOf tis modes tg3.1 lv
theorem cs_ok (n:Nat):CtxOk Tryz.prog (cs n):=ctxOf_ok rfl tis_ok tg3.2 n
def sh:AS:=⟨[(.agg [.int .i64,.int .i64])],[]⟩
def os:OS:=⟨.c (.int .i64),[]⟩
def enc (r:R):Out:=os.enc r
def dec:Out→Option R:=os.dec
noncomputable def b0:Code:=subF [] Tryz.f163
noncomputable def K0 (k:Nat):Kt R:=kTop (cs k) Tryz.f163 dec
noncomputable def f (k:Nat):Y:=fun v=>held (runFn cs k Tryz.f163 (sh.args v) (sh.slots v) dec)
noncomputable def F:Y:=lm f
def d (p0:g3.Y):Y:=fun (v0,v1) =>
br (decide (v0 < -1152921504606846976) || decide (1152921504606846976 < v0) || decide (v1 < 1) || decide (1152921504606846976 < v1)) (some 4) (bnd (p0 (v0,v1)) fun r=>br (!decide (r = 1)) (some 3) (some 0))
theorem d_cn (k0:Pr E g3.A g3.R):∀ v:A,Cn E (d k0.p v) fun i=>d (k0.q i) v:=fun (v0,v1)=>(.br .some (.bnd (k0.h _) fun _=>(.br .some .some)))
theorem f_b (k:Nat):∀ v:A,f k v = d (g3.f k) v:=fun (v0,v1)=>(held_eq _).trans (by kernel_rfl)
theorem F_of (v:A) {r:R} (h:d g3.F v = some r):F v = some r:=join_of (fun L=>f_b (L 0) v) (d_cn (lp g3.f 0) v) h
noncomputable def spec (k:Nat):List AV→List Slot→Option Ans:=specS sh os (f k)
theorem spec_ok (k:Nat):SpecOk Tryz.prog 163 (spec k):=specS_ok cs_ok Tryz.func163 rfl rfl (fun _ _=>held_eq _) k
end g4
noncomputable def tg4:=tg3.cons 163 g4.spec g4.spec_ok
namespace g5 -- num_CeilDiv
abbrev R:Type:=Int
abbrev A:Type:=Int × Int
abbrev Y:=A→Option R
def lv:List (Nat × List Nat):=[(2000000,[4]),(1000006,[5])]
noncomputable def cs:Nat→Ctx:=ctxOf tis modes tg4.1 lv
theorem cs_ok (n:Nat):CtxOk Tryz.prog (cs n):=ctxOf_ok rfl tis_ok tg4.2 n
def sh:AS:=⟨[.c (.int .i64),.c (.int .i64)],[]⟩
def os:OS:=⟨.c (.int .i64),[]⟩
def enc (r:R):Out:=os.enc r
def dec:Out→Option R:=os.dec
noncomputable def b0:Code:=subF [] Tryz.f197
noncomputable def K0 (k:Nat):Kt R:=kTop (cs k) Tryz.f197 dec
noncomputable def c1000006:Code:=sub [1,1,1,1] b0
noncomputable def J1000006 ( k:Nat):Kt R:=kAt (cs k) (loopN cs k) [1,1,1,1] b0 (K0 k)
abbrev T0:Type:=Int
abbrev Y0:=T0→Option R
def s0:T0→St:=fun v0=>⟨18,0,[(5,.c (.int .i64 v0))],[],[(256000000,.gone)]⟩
noncomputable def l0 ( k:Nat) (v:T0):Option R:=held (run (cs k) (loopN cs k) c1000006 (J1000006 k) (s0 v))
noncomputable def D0 (v:T0):Option R:=lim fun L=>l0 (L 0) v
theorem D0_cn (v:T0):Cn late (D0 v) fun L=>l0 (L 0) v:=of_lim
def d0:Y0:=fun v0 =>
some v0
theorem d0_cn:∀ v:T0,Cn E (d0 v) fun i=>d0 v:=fun v0=>.some
theorem l0_b ( k:Nat):∀ v:T0,run (cs k) (loopN cs k) c1000006 (J1000006 k) (s0 v) = d0 v:=fun v0=>by kernel_rfl
theorem D0_of (v:T0) {r:R} (h:d0 v = some r):D0 v = some r:=join_of (fun L=>(held_eq _).trans (l0_b (L 0) v)) (d0_cn v) h
noncomputable def f (k:Nat):Y:=fun v=>held (runFn cs k Tryz.f197 (sh.args v) (sh.slots v) dec)
noncomputable def F:Y:=lm f
def d (p0:Y0):Y:=fun (v0,v1) =>
br (decide (v1 < 1)) (some 0) (br (!decide (v1 = 0)) (br (!decide (v1 = 0)) (br (decide (0 < v0.tmod v1)) (p0 (wrap .i64 (wrap .i64 (v0.tdiv v1) + 1))) (p0 (wrap .i64 (v0.tdiv v1)))) none) none)
theorem d_cn (k0:Pr E T0 R):∀ v:A,Cn E (d k0.p v) fun i=>d (k0.q i) v:=fun (v0,v1)=>(.br .some (.br (.br (.br (k0.h _) (k0.h _)) .none) .none))
theorem f_b (k:Nat):∀ v:A,f k v = d (l0 k) v:=fun (v0,v1)=>(held_eq _).trans (by kernel_rfl)
theorem F_of (v:A) {r:R} (h:d D0 v = some r):F v = some r:=join_of (fun L=>f_b (L 0) v) (d_cn (.mk fun v=>(D0_cn v).re [0]) v) h
noncomputable def spec (k:Nat):List AV→List Slot→Option Ans:=specS sh os (f k)
theorem spec_ok (k:Nat):SpecOk Tryz.prog 197 (spec k):=specS_ok cs_ok Tryz.func197 rfl rfl (fun _ _=>held_eq _) k
end g5
noncomputable def tg5:=tg4.cons 197 g5.spec g5.spec_ok
namespace g6 -- frac_rounded
abbrev R:Type:=Int
abbrev A:Type:=Int × Int
abbrev Y:=A→Option R
def lv:List (Nat × List Nat):=[(2000000,[4])]
noncomputable def cs:Nat→Ctx:=ctxOf tis modes tg5.1 lv
theorem cs_ok (n:Nat):CtxOk Tryz.prog (cs n):=ctxOf_ok rfl tis_ok tg5.2 n
def sh:AS:=⟨[.agg [.int .i64,.int .i64],.c (.func 197 [])],[]⟩
def os:OS:=⟨.c (.int .i64),[]⟩
def enc (r:R):Out:=os.enc r
def dec:Out→Option R:=os.dec
noncomputable def b0:Code:=subF [] Tryz.f196
noncomputable def K0 (k:Nat):Kt R:=kTop (cs k) Tryz.f196 dec
noncomputable def f (k:Nat):Y:=fun v=>held (runFn cs k Tryz.f196 (sh.args v) (sh.slots v) dec)
noncomputable def F:Y:=lm f
def d (p0:g4.Y) (p1:g5.Y):Y:=fun (v0,v1) =>
bnd (p0 (v0,v1)) fun r=>br (!decide (r = 0)) (some 0) (bnd (p1 (v0,v1)) fun r=>some r)
theorem d_cn (k0:Pr E g4.A g4.R) (k1:Pr E g5.A g5.R):∀ v:A,Cn E (d k0.p k1.p v) fun i=>d (k0.q i) (k1.q i) v:=fun (v0,v1)=>(.bnd (k0.h _) fun _=>(.br .some (.bnd (k1.h _) fun _=>.some)))
theorem f_b (k:Nat):∀ v:A,f k v = d (g4.f k) (g5.f k) v:=fun (v0,v1)=>(held_eq _).trans (by kernel_rfl)
theorem F_of (v:A) {r:R} (h:d g4.F g5.F v = some r):F v = some r:=join_of (fun L=>f_b (L 0) v) (d_cn (lp g4.f 0) (lp g5.f 0) v) h
noncomputable def spec (k:Nat):List AV→List Slot→Option Ans:=specS sh os (f k)
theorem spec_ok (k:Nat):SpecOk Tryz.prog 196 (spec k):=specS_ok cs_ok Tryz.func196 rfl rfl (fun _ _=>held_eq _) k
end g6
noncomputable def tg6:=tg5.cons 196 g6.spec g6.spec_ok
namespace g7 -- frac_Ceil
abbrev R:Type:=Int
abbrev A:Type:=Int × Int
abbrev Y:=A→Option R
def lv:List (Nat × List Nat):=[(2000000,[2])]
noncomputable def cs:Nat→Ctx:=ctxOf tis modes tg6.1 lv
theorem cs_ok (n:Nat):CtxOk Tryz.prog (cs n):=ctxOf_ok rfl tis_ok tg6.2 n
def sh:AS:=⟨[(.agg [.int .i64,.int .i64])],[]⟩
def os:OS:=⟨.c (.int .i64),[]⟩
def enc (r:R):Out:=os.enc r
def dec:Out→Option R:=os.dec
noncomputable def b0:Code:=subF [] Tryz.f164
noncomputable def K0 (k:Nat):Kt R:=kTop (cs k) Tryz.f164 dec
noncomputable def f (k:Nat):Y:=fun v=>held (runFn cs k Tryz.f164 (sh.args v) (sh.slots v) dec)
noncomputable def F:Y:=lm f
def d (p0:g6.Y):Y:=fun (v0,v1) =>
bnd (p0 (v0,v1)) fun r=>some r
theorem d_cn (k0:Pr E g6.A g6.R):∀ v:A,Cn E (d k0.p v) fun i=>d (k0.q i) v:=fun (v0,v1)=>(.bnd (k0.h _) fun _=>.some)
theorem f_b (k:Nat):∀ v:A,f k v = d (g6.f k) v:=fun (v0,v1)=>(held_eq _).trans (by kernel_rfl)
theorem F_of (v:A) {r:R} (h:d g6.F v = some r):F v = some r:=join_of (fun L=>f_b (L 0) v) (d_cn (lp g6.f 0) v) h
noncomputable def spec (k:Nat):List AV→List Slot→Option Ans:=specS sh os (f k)
theorem spec_ok (k:Nat):SpecOk Tryz.prog 164 (spec k):=specS_ok cs_ok Tryz.func164 rfl rfl (fun _ _=>held_eq _) k
end g7
noncomputable def tg7:=tg6.cons 164 g7.spec g7.spec_ok
namespace g8 -- scale_CheckRate
abbrev R:Type:=Int
abbrev A:Type:=Int × Int × Int × Int
abbrev Y:=A→Option R
def lv:List (Nat × List Nat):=[(2000000,[2])]
noncomputable def cs:Nat→Ctx:=ctxOf tis modes tg7.1 lv
theorem cs_ok (n:Nat):CtxOk Tryz.prog (cs n):=ctxOf_ok rfl tis_ok tg7.2 n
def sh:AS:=⟨[(.agg [.int .i64,.int .i64,.int .i64,.int .i64])],[]⟩
def os:OS:=⟨.c (.int .i64),[]⟩
def enc (r:R):Out:=os.enc r
def dec:Out→Option R:=os.dec
noncomputable def b0:Code:=subF [] Tryz.f116
noncomputable def K0 (k:Nat):Kt R:=kTop (cs k) Tryz.f116 dec
noncomputable def f (k:Nat):Y:=fun v=>held (runFn cs k Tryz.f116 (sh.args v) (sh.slots v) dec)
noncomputable def F:Y:=lm f
def d (p0:g4.Y) (p1:g7.Y):Y:=fun (v0,v1,v2,v3) =>
bnd (p0 (v2,v3)) fun r=>br (decide (v0 < -17592186044416) || decide (17592186044416 < v0) || decide (v1 < 0) || decide (4294967296 ≤ v1)) (some 4) (br (!decide (r = 0)) (some r) (br (decide (v2 < 1) == false) (bnd (p1 (v2,v3)) fun r=>br (decide (65536 < r)) (some 1) (some 0)) (some 1)))
theorem d_cn (k0:Pr E g4.A g4.R) (k1:Pr E g7.A g7.R):∀ v:A,Cn E (d k0.p k1.p v) fun i=>d (k0.q i) (k1.q i) v:=fun (v0,v1,v2,v3)=>(.bnd (k0.h _) fun _=>(.br .some (.br .some (.br (.bnd (k1.h _) fun _=>(.br .some .some)) .some))))
theorem f_b (k:Nat):∀ v:A,f k v = d (g4.f k) (g7.f k) v:=fun (v0,v1,v2,v3)=>(held_eq _).trans (by kernel_rfl)
theorem F_of (v:A) {r:R} (h:d g4.F g7.F v = some r):F v = some r:=join_of (fun L=>f_b (L 0) v) (d_cn (lp g4.f 0) (lp g7.f 0) v) h
noncomputable def spec (k:Nat):List AV→List Slot→Option Ans:=specS sh os (f k)
theorem spec_ok (k:Nat):SpecOk Tryz.prog 116 (spec k):=specS_ok cs_ok Tryz.func116 rfl rfl (fun _ _=>held_eq _) k
end g8
noncomputable def tg8:=tg7.cons 116 g8.spec g8.spec_ok
namespace g9 -- cmp_Or_Errno
abbrev R:Type:=Int
abbrev A:Type:=List Int
abbrev Y:=A→Option R
def lv:List (Nat × List Nat):=[(2000000,[2]),(3,[3,6,7,8])]
noncomputable def cs:Nat→Ctx:=ctxOf tis modes tg8.1 lv
theorem cs_ok (n:Nat):CtxOk Tryz.prog (cs n):=ctxOf_ok rfl tis_ok tg8.2 n
def sh:AS:=⟨[(.c (.frz (.int .i64)))],[]⟩
def os:OS:=⟨.c (.int .i64),[]⟩
def enc (r:R):Out:=os.enc r
def dec:Out→Option R:=os.dec
noncomputable def b0:Code:=subF [] Tryz.f119
noncomputable def K0 (k:Nat):Kt R:=kTop (cs k) Tryz.f119 dec
noncomputable def b3:Code:=sub [1,1,0,1,0,0] b0
noncomputable def K3 ( k:Nat):Kt R:=kAt (cs k) (loopN cs k) [1,1,0,1,0] b0 (K0 k)
abbrev T0:Type:=Int × List Int × Int × Int
abbrev Y0:=T0→Option R
def s0:T0→St:=fun (v0,v1,v2,v3)=>⟨18,0,[(3,.c (.int .i64 v0)),(6,.c (.frz (.int .i64) v1)),(7,.c (.int .i64 v2)),(8,.c (.int .i64 v3))],[],[(256000000,.gone)]⟩
noncomputable def l0 ( k n:Nat) (v:T0):Option R:=held (loopN cs n b3 (K3 k) (s0 v))
noncomputable def D0 (v:T0):Option R:=lim fun L=>l0 (L 0) (L 1) v
theorem D0_cn (v:T0):Cn late (D0 v) fun L=>l0 (L 0) (L 1) v:=of_lim
def d0 (p0:Y0):Y0:=fun (v0,v1,v2,v3) =>
br (decide (v3 < v2)) (br (decide (0 ≤ v3 ∧ v3 < (↑v1.length:Int))) (br (!decide (rd (Ty.int .i64) v1 v3 = v0)) (some (rd (Ty.int .i64) v1 v3)) (p0 (v0,v1,v2,wrap .i64 (v3 + 1)))) none) (some v0)
theorem d0_cn (k0:Pr E T0 R):∀ v:T0,Cn E (d0 k0.p v) fun i=>d0 (k0.q i) v:=fun (v0,v1,v2,v3)=>(.br (.br (.br .some (k0.h _)) .none) .some)
theorem l0_b ( k m1:Nat):∀ v:T0,run (cs m1) (loopN cs m1) b3 (kLoop cs m1 b3 (K3 k)) (s0 v) = d0 (l0 k m1) v:=fun (v0,v1,v2,v3)=>by kernel_rfl
theorem D0_of (v:T0) {r:R} (h:d0 D0 v = some r):D0 v = some r:=loop_of 1 (fun L n hn=>by show l0 (L 0) (L 1) v = _; rw [hn]; exact (held_eq _).trans ((loopN_succ _ _ _ _ _).trans (l0_b (L 0) n v))) (d0_cn (.mk fun v=>(D0_cn v).re [0,1]) v) h
noncomputable def f (k:Nat):Y:=fun v=>held (runFn cs k Tryz.f119 (sh.args v) (sh.slots v) dec)
noncomputable def F:Y:=lm f
def d (p0:Y0):Y:=fun v0 =>
p0 (0,v0,(↑v0.length:Int),0)
theorem d_cn (k0:Pr E T0 R):∀ v:A,Cn E (d k0.p v) fun i=>d (k0.q i) v:=fun v0=>(k0.h _)
theorem f_b (k:Nat):∀ v:A,f k v = d (l0 k k) v:=fun v0=>(held_eq _).trans (by kernel_rfl)
theorem F_of (v:A) {r:R} (h:d D0 v = some r):F v = some r:=join_of (fun L=>f_b (L 0) v) (d_cn (.mk fun v=>(D0_cn v).re [0,0]) v) h
noncomputable def spec (k:Nat):List AV→List Slot→Option Ans:=specS sh os (f k)
theorem spec_ok (k:Nat):SpecOk Tryz.prog 119 (spec k):=specS_ok cs_ok Tryz.func119 rfl rfl (fun _ _=>held_eq _) k
end g9
noncomputable def tg9:=tg8.cons 119 g9.spec g9.spec_ok
namespace g10 -- frac_both
abbrev R:Type:=Int
abbrev A:Type:=Int × Int × Int × Int
abbrev Y:=A→Option R
def lv:List (Nat × List Nat):=[(2000000,[4])]
noncomputable def cs:Nat→Ctx:=ctxOf tis modes tg9.1 lv
theorem cs_ok (n:Nat):CtxOk Tryz.prog (cs n):=ctxOf_ok rfl tis_ok tg9.2 n
def sh:AS:=⟨[.agg [.int .i64,.int .i64],.agg [.int .i64,.int .i64]],[]⟩
def os:OS:=⟨.c (.int .i64),[]⟩
def enc (r:R):Out:=os.enc r
def dec:Out→Option R:=os.dec
noncomputable def b0:Code:=subF [] Tryz.f171
noncomputable def K0 (k:Nat):Kt R:=kTop (cs k) Tryz.f171 dec
noncomputable def f (k:Nat):Y:=fun v=>held (runFn cs k Tryz.f171 (sh.args v) (sh.slots v) dec)
noncomputable def F:Y:=lm f
def d (p0:g4.Y) (p1:g9.Y):Y:=fun (v0,v1,v2,v3) =>
bnd (p0 (v0,v1)) fun r=>bnd (p0 (v2,v3)) fun r_1=>bnd (p1 [r,r_1]) fun r=>some r
theorem d_cn (k0:Pr E g4.A g4.R) (k1:Pr E g9.A g9.R):∀ v:A,Cn E (d k0.p k1.p v) fun i=>d (k0.q i) (k1.q i) v:=fun (v0,v1,v2,v3)=>(.bnd (k0.h _) fun _=>(.bnd (k0.h _) fun _=>(.bnd (k1.h _) fun _=>.some)))
theorem f_b (k:Nat):∀ v:A,f k v = d (g4.f k) (g9.f k) v:=fun (v0,v1,v2,v3)=>(held_eq _).trans (by kernel_rfl)
theorem F_of (v:A) {r:R} (h:d g4.F g9.F v = some r):F v = some r:=join_of (fun L=>f_b (L 0) v) (d_cn (lp g4.f 0) (lp g9.f 0) v) h
noncomputable def spec (k:Nat):List AV→List Slot→Option Ans:=specS sh os (f k)
theorem spec_ok (k:Nat):SpecOk Tryz.prog 171 (spec k):=specS_ok cs_ok Tryz.func171 rfl rfl (fun _ _=>held_eq _) k
end g10
noncomputable def tg10:=tg9.cons 171 g10.spec g10.spec_ok
namespace g11 -- bits_Mul64
abbrev R:Type:=Int × Int
abbrev A:Type:=Int × Int
abbrev Y:=A→Option R
def lv:List (Nat × List Nat):=[(2000000,[4,5])]
noncomputable def cs:Nat→Ctx:=ctxOf tis modes tg10.1 lv
theorem cs_ok (n:Nat):CtxOk Tryz.prog (cs n):=ctxOf_ok rfl tis_ok tg10.2 n
def sh:AS:=⟨[.c (.int .u64),.c (.int .u64)],[]⟩
def os:OS:=⟨.tup [.c (.int .u64),.c (.int .u64)],[]⟩
def enc (r:R):Out:=os.enc r
def dec:Out→Option R:=os.dec
noncomputable def b0:Code:=subF [] Tryz.f200
noncomputable def K0 (k:Nat):Kt R:=kTop (cs k) Tryz.f200 dec
noncomputable def f (k:Nat):Y:=fun v=>held (runFn cs k Tryz.f200 (sh.args v) (sh.slots v) dec)
noncomputable def F:Y:=lm f
noncomputable def d:Y:=fun (v0,v1) =>
br (decide ((0:Int) ≤ 32)) (br (decide ((0:Int) ≤ 32)) (br (decide ((0:Int) ≤ 32)) (br (decide ((0:Int) ≤ 32)) (br (decide ((0:Int) ≤ 32)) (some (wrap .u64 (wrap .u64 (wrap .u64 (shr .u64 v0 32 * shr .u64 v1 32) + shr .u64 (wrap .u64 (wrap .u64 (shr .u64 v0 32 * bAnd .u64 v1 4294967295) + shr .u64 (wrap .u64 (bAnd .u64 v0 4294967295 * bAnd .u64 v1 4294967295)) 32)) 32) + shr .u64 (wrap .u64 (bAnd .u64 (wrap .u64 (wrap .u64 (shr .u64 v0 32 * bAnd .u64 v1 4294967295) + shr .u64 (wrap .u64 (bAnd .u64 v0 4294967295 * bAnd .u64 v1 4294967295)) 32)) 4294967295 + wrap .u64 (bAnd .u64 v0 4294967295 * shr .u64 v1 32))) 32),wrap .u64 (v0 * v1))) none) none) none) none) none
theorem d_cn:∀ v:A,Cn E (d v) fun i=>d v:=fun (v0,v1)=>(.br (.br (.br (.br (.br .some .none) .none) .none) .none) .none)
theorem f_b (k:Nat):∀ v:A,f k v = d v:=fun (v0,v1)=>(held_eq _).trans (by kernel_rfl)
theorem F_of (v:A) {r:R} (h:d v = some r):F v = some r:=join_of (fun L=>f_b (L 0) v) (d_cn v) h
noncomputable def spec (k:Nat):List AV→List Slot→Option Ans:=specS sh os (f k)
theorem spec_ok (k:Nat):SpecOk Tryz.prog 200 (spec k):=specS_ok cs_ok Tryz.func200 rfl rfl (fun _ _=>held_eq _) k
end g11
noncomputable def tg11:=tg10.cons 200 g11.spec g11.spec_ok
namespace g12 -- bits_Add64
abbrev R:Type:=Int × Int
abbrev A:Type:=Int × Int × Int
abbrev Y:=A→Option R
noncomputable def f (_:Nat):Y:=add64D
noncomputable def F:Y:=lm f
def d:Y:=add64D
theorem d_cn:∀ v:A,Cn E (d v) fun _=>d v:=fun _=>.some
theorem F_of (v:A) {r:R} (h:d v = some r):F v = some r:=join_of (fun L=>rfl) (d_cn v) h
noncomputable def spec (_:Nat):List AV→List Slot→Option Ans:=carrySpec add64D
theorem spec_ok (k:Nat):SpecOk Tryz.prog 218 (spec k):=add64_ok Tryz.func218 rfl rfl rfl (by kernel_rfl)
end g12
noncomputable def tg12:=tg11.cons 218 g12.spec g12.spec_ok
namespace g13 -- num_Wide_Neg
abbrev R:Type:=Int × Int
abbrev A:Type:=Int × Int
abbrev Y:=A→Option R
def lv:List (Nat × List Nat):=[(2000000,[2])]
noncomputable def cs:Nat→Ctx:=ctxOf tis modes tg12.1 lv
theorem cs_ok (n:Nat):CtxOk Tryz.prog (cs n):=ctxOf_ok rfl tis_ok tg12.2 n
def sh:AS:=⟨[(.agg [.int .i64,.int .u64])],[]⟩
def os:OS:=⟨.agg [.int .i64,.int .u64],[]⟩
def enc (r:R):Out:=os.enc r
def dec:Out→Option R:=os.dec
noncomputable def b0:Code:=subF [] Tryz.f202
noncomputable def K0 (k:Nat):Kt R:=kTop (cs k) Tryz.f202 dec
noncomputable def f (k:Nat):Y:=fun v=>held (runFn cs k Tryz.f202 (sh.args v) (sh.slots v) dec)
noncomputable def F:Y:=lm f
def d (p0:g12.Y):Y:=fun (v0,v1) =>
bnd (p0 (bXor .u64 18446744073709551615 v1,1,0)) fun r=>bnd (p0 (bXor .u64 18446744073709551615 (wrap .u64 v0),0,r.2)) fun r_1=>some (wrap .i64 r_1.1,r.1)
theorem d_cn (k0:Pr E g12.A g12.R):∀ v:A,Cn E (d k0.p v) fun i=>d (k0.q i) v:=fun (v0,v1)=>(.bnd (k0.h _) fun _=>(.bnd (k0.h _) fun _=>.some))
theorem f_b (k:Nat):∀ v:A,f k v = d (g12.f k) v:=fun (v0,v1)=>(held_eq _).trans (by kernel_rfl)
theorem F_of (v:A) {r:R} (h:d g12.F v = some r):F v = some r:=join_of (fun L=>f_b (L 0) v) (d_cn (lp g12.f 0) v) h
noncomputable def spec (k:Nat):List AV→List Slot→Option Ans:=specS sh os (f k)
theorem spec_ok (k:Nat):SpecOk Tryz.prog 202 (spec k):=specS_ok cs_ok Tryz.func202 rfl rfl (fun _ _=>held_eq _) k
end g13
noncomputable def tg13:=tg12.cons 202 g13.spec g13.spec_ok
namespace g14 -- num_Product
abbrev R:Type:=Int × Int
abbrev A:Type:=Int × Int
abbrev Y:=A→Option R
def lv:List (Nat × List Nat):=[(2000000,[4])]
noncomputable def cs:Nat→Ctx:=ctxOf tis modes tg13.1 lv
theorem cs_ok (n:Nat):CtxOk Tryz.prog (cs n):=ctxOf_ok rfl tis_ok tg13.2 n
def sh:AS:=⟨[.c (.int .i64),.c (.int .i64)],[]⟩
def os:OS:=⟨.agg [.int .i64,.int .u64],[]⟩
def enc (r:R):Out:=os.enc r
def dec:Out→Option R:=os.dec
noncomputable def b0:Code:=subF [] Tryz.f172
noncomputable def K0 (k:Nat):Kt R:=kTop (cs k) Tryz.f172 dec
noncomputable def f (k:Nat):Y:=fun v=>held (runFn cs k Tryz.f172 (sh.args v) (sh.slots v) dec)
noncomputable def F:Y:=lm f
def d (p0:g2.Y) (p1:g11.Y) (p2:g13.Y):Y:=fun (v0,v1) =>
bnd (p0 v0) fun r=>bnd (p0 v1) fun r_1=>bnd (p1 (r,r_1)) fun r=>br (!decide (v0 < 0) == decide (v1 < 0)) (bnd (p2 (wrap .i64 r.1,r.2)) fun r=>some (r.1,r.2)) (some (wrap .i64 r.1,r.2))
theorem d_cn (k0:Pr E g2.A g2.R) (k1:Pr E g11.A g11.R) (k2:Pr E g13.A g13.R):∀ v:A,Cn E (d k0.p k1.p k2.p v) fun i=>d (k0.q i) (k1.q i) (k2.q i) v:=fun (v0,v1)=>(.bnd (k0.h _) fun _=>(.bnd (k0.h _) fun _=>(.bnd (k1.h _) fun _=>(.br (.bnd (k2.h _) fun _=>.some) .some))))
theorem f_b (k:Nat):∀ v:A,f k v = d (g2.f k) (g11.f k) (g13.f k) v:=fun (v0,v1)=>(held_eq _).trans (by kernel_rfl)
theorem F_of (v:A) {r:R} (h:d g2.F g11.F g13.F v = some r):F v = some r:=join_of (fun L=>f_b (L 0) v) (d_cn (lp g2.f 0) (lp g11.f 0) (lp g13.f 0) v) h
noncomputable def spec (k:Nat):List AV→List Slot→Option Ans:=specS sh os (f k)
theorem spec_ok (k:Nat):SpecOk Tryz.prog 172 (spec k):=specS_ok cs_ok Tryz.func172 rfl rfl (fun _ _=>held_eq _) k
end g14
noncomputable def tg14:=tg13.cons 172 g14.spec g14.spec_ok
namespace g15 -- cmp_isNaN_int64
abbrev R:Type:=Bool
abbrev A:Type:=Int
abbrev Y:=A→Option R
def lv:List (Nat × List Nat):=[(2000000,[2])]
noncomputable def cs:Nat→Ctx:=ctxOf tis modes tg14.1 lv
theorem cs_ok (n:Nat):CtxOk Tryz.prog (cs n):=ctxOf_ok rfl tis_ok tg14.2 n
def sh:AS:=⟨[(.c (.int .i64))],[]⟩
def os:OS:=⟨.c .bool,[]⟩
def enc (r:R):Out:=os.enc r
def dec:Out→Option R:=os.dec
noncomputable def b0:Code:=subF [] Tryz.f219
noncomputable def K0 (k:Nat):Kt R:=kTop (cs k) Tryz.f219 dec
noncomputable def f (k:Nat):Y:=fun v=>held (runFn cs k Tryz.f219 (sh.args v) (sh.slots v) dec)
noncomputable def F:Y:=lm f
def d:Y:=fun v0 =>
some !decide (v0 = v0)
theorem d_cn:∀ v:A,Cn E (d v) fun i=>d v:=fun v0=>.some
theorem f_b (k:Nat):∀ v:A,f k v = d v:=fun v0=>(held_eq _).trans (by kernel_rfl)
theorem F_of (v:A) {r:R} (h:d v = some r):F v = some r:=join_of (fun L=>f_b (L 0) v) (d_cn v) h
noncomputable def spec (k:Nat):List AV→List Slot→Option Ans:=specS sh os (f k)
theorem spec_ok (k:Nat):SpecOk Tryz.prog 219 (spec k):=specS_ok cs_ok Tryz.func219 rfl rfl (fun _ _=>held_eq _) k
end g15
noncomputable def tg15:=tg14.cons 219 g15.spec g15.spec_ok
namespace g16 -- cmp_Compare_int64
abbrev R:Type:=Int
abbrev A:Type:=Int × Int
abbrev Y:=A→Option R
def lv:List (Nat × List Nat):=[(2000000,[4])]
noncomputable def cs:Nat→Ctx:=ctxOf tis modes tg15.1 lv
theorem cs_ok (n:Nat):CtxOk Tryz.prog (cs n):=ctxOf_ok rfl tis_ok tg15.2 n
def sh:AS:=⟨[.c (.int .i64),.c (.int .i64)],[]⟩
def os:OS:=⟨.c (.int .i64),[]⟩
def enc (r:R):Out:=os.enc r
def dec:Out→Option R:=os.dec
noncomputable def b0:Code:=subF [] Tryz.f204
noncomputable def K0 (k:Nat):Kt R:=kTop (cs k) Tryz.f204 dec
noncomputable def f (k:Nat):Y:=fun v=>held (runFn cs k Tryz.f204 (sh.args v) (sh.slots v) dec)
noncomputable def F:Y:=lm f
def d (p0:g15.Y):Y:=fun (v0,v1) =>
bnd (p0 v0) fun r=>bnd (p0 v1) fun r_1=>br r (br r_1 (some 0) (some (-1))) (br r_1 (some 1) (br (decide (v0 < v1)) (some (-1)) (br (decide (v1 < v0)) (some 1) (some 0))))
theorem d_cn (k0:Pr E g15.A g15.R):∀ v:A,Cn E (d k0.p v) fun i=>d (k0.q i) v:=fun (v0,v1)=>(.bnd (k0.h _) fun _=>(.bnd (k0.h _) fun _=>(.br (.br .some .some) (.br .some (.br .some (.br .some .some))))))
theorem f_b (k:Nat):∀ v:A,f k v = d (g15.f k) v:=fun (v0,v1)=>(held_eq _).trans (by kernel_rfl)
theorem F_of (v:A) {r:R} (h:d g15.F v = some r):F v = some r:=join_of (fun L=>f_b (L 0) v) (d_cn (lp g15.f 0) v) h
noncomputable def spec (k:Nat):List AV→List Slot→Option Ans:=specS sh os (f k)
theorem spec_ok (k:Nat):SpecOk Tryz.prog 204 (spec k):=specS_ok cs_ok Tryz.func204 rfl rfl (fun _ _=>held_eq _) k
end g16
noncomputable def tg16:=tg15.cons 204 g16.spec g16.spec_ok
namespace g17 -- cmp_isNaN_uint64
abbrev R:Type:=Bool
abbrev A:Type:=Int
abbrev Y:=A→Option R
def lv:List (Nat × List Nat):=[(2000000,[2])]
noncomputable def cs:Nat→Ctx:=ctxOf tis modes tg16.1 lv
theorem cs_ok (n:Nat):CtxOk Tryz.prog (cs n):=ctxOf_ok rfl tis_ok tg16.2 n
def sh:AS:=⟨[(.c (.int .u64))],[]⟩
def os:OS:=⟨.c .bool,[]⟩
def enc (r:R):Out:=os.enc r
def dec:Out→Option R:=os.dec
noncomputable def b0:Code:=subF [] Tryz.f220
noncomputable def K0 (k:Nat):Kt R:=kTop (cs k) Tryz.f220 dec
noncomputable def f (k:Nat):Y:=fun v=>held (runFn cs k Tryz.f220 (sh.args v) (sh.slots v) dec)
noncomputable def F:Y:=lm f
def d:Y:=fun v0 =>
some !decide (v0 = v0)
theorem d_cn:∀ v:A,Cn E (d v) fun i=>d v:=fun v0=>.some
theorem f_b (k:Nat):∀ v:A,f k v = d v:=fun v0=>(held_eq _).trans (by kernel_rfl)
theorem F_of (v:A) {r:R} (h:d v = some r):F v = some r:=join_of (fun L=>f_b (L 0) v) (d_cn v) h
noncomputable def spec (k:Nat):List AV→List Slot→Option Ans:=specS sh os (f k)
theorem spec_ok (k:Nat):SpecOk Tryz.prog 220 (spec k):=specS_ok cs_ok Tryz.func220 rfl rfl (fun _ _=>held_eq _) k
end g17
noncomputable def tg17:=tg16.cons 220 g17.spec g17.spec_ok
namespace g18 -- cmp_Compare_uint64
abbrev R:Type:=Int
abbrev A:Type:=Int × Int
abbrev Y:=A→Option R
def lv:List (Nat × List Nat):=[(2000000,[4])]
noncomputable def cs:Nat→Ctx:=ctxOf tis modes tg17.1 lv
theorem cs_ok (n:Nat):CtxOk Tryz.prog (cs n):=ctxOf_ok rfl tis_ok tg17.2 n
def sh:AS:=⟨[.c (.int .u64),.c (.int .u64)],[]⟩
def os:OS:=⟨.c (.int .i64),[]⟩
def enc (r:R):Out:=os.enc r
def dec:Out→Option R:=os.dec
noncomputable def b0:Code:=subF [] Tryz.f205
noncomputable def K0 (k:Nat):Kt R:=kTop (cs k) Tryz.f205 dec
noncomputable def f (k:Nat):Y:=fun v=>held (runFn cs k Tryz.f205 (sh.args v) (sh.slots v) dec)
noncomputable def F:Y:=lm f
def d (p0:g17.Y):Y:=fun (v0,v1) =>
bnd (p0 v0) fun r=>bnd (p0 v1) fun r_1=>br r (br r_1 (some 0) (some (-1))) (br r_1 (some 1) (br (decide (v0 < v1)) (some (-1)) (br (decide (v1 < v0)) (some 1) (some 0))))
theorem d_cn (k0:Pr E g17.A g17.R):∀ v:A,Cn E (d k0.p v) fun i=>d (k0.q i) v:=fun (v0,v1)=>(.bnd (k0.h _) fun _=>(.bnd (k0.h _) fun _=>(.br (.br .some .some) (.br .some (.br .some (.br .some .some))))))
theorem f_b (k:Nat):∀ v:A,f k v = d (g17.f k) v:=fun (v0,v1)=>(held_eq _).trans (by kernel_rfl)
theorem F_of (v:A) {r:R} (h:d g17.F v = some r):F v = some r:=join_of (fun L=>f_b (L 0) v) (d_cn (lp g17.f 0) v) h
noncomputable def spec (k:Nat):List AV→List Slot→Option Ans:=specS sh os (f k)
theorem spec_ok (k:Nat):SpecOk Tryz.prog 205 (spec k):=specS_ok cs_ok Tryz.func205 rfl rfl (fun _ _=>held_eq _) k
end g18
noncomputable def tg18:=tg17.cons 205 g18.spec g18.spec_ok
namespace g19 -- cmp_Or_int
abbrev R:Type:=Int
abbrev A:Type:=List Int
abbrev Y:=A→Option R
def lv:List (Nat × List Nat):=[(2000000,[2]),(3,[3,6,7,8])]
noncomputable def cs:Nat→Ctx:=ctxOf tis modes tg18.1 lv
theorem cs_ok (n:Nat):CtxOk Tryz.prog (cs n):=ctxOf_ok rfl tis_ok tg18.2 n
def sh:AS:=⟨[(.c (.frz (.int .i64)))],[]⟩
def os:OS:=⟨.c (.int .i64),[]⟩
def enc (r:R):Out:=os.enc r
def dec:Out→Option R:=os.dec
noncomputable def b0:Code:=subF [] Tryz.f203
noncomputable def K0 (k:Nat):Kt R:=kTop (cs k) Tryz.f203 dec
noncomputable def b3:Code:=sub [1,1,0,1,0,0] b0
noncomputable def K3 ( k:Nat):Kt R:=kAt (cs k) (loopN cs k) [1,1,0,1,0] b0 (K0 k)
abbrev T0:Type:=Int × List Int × Int × Int
abbrev Y0:=T0→Option R
def s0:T0→St:=fun (v0,v1,v2,v3)=>⟨18,0,[(3,.c (.int .i64 v0)),(6,.c (.frz (.int .i64) v1)),(7,.c (.int .i64 v2)),(8,.c (.int .i64 v3))],[],[(256000000,.gone)]⟩
noncomputable def l0 ( k n:Nat) (v:T0):Option R:=held (loopN cs n b3 (K3 k) (s0 v))
noncomputable def D0 (v:T0):Option R:=lim fun L=>l0 (L 0) (L 1) v
theorem D0_cn (v:T0):Cn late (D0 v) fun L=>l0 (L 0) (L 1) v:=of_lim
def d0 (p0:Y0):Y0:=fun (v0,v1,v2,v3) =>
br (decide (v3 < v2)) (br (decide (0 ≤ v3 ∧ v3 < (↑v1.length:Int))) (br (!decide (rd (Ty.int .i64) v1 v3 = v0)) (some (rd (Ty.int .i64) v1 v3)) (p0 (v0,v1,v2,wrap .i64 (v3 + 1)))) none) (some v0)
theorem d0_cn (k0:Pr E T0 R):∀ v:T0,Cn E (d0 k0.p v) fun i=>d0 (k0.q i) v:=fun (v0,v1,v2,v3)=>(.br (.br (.br .some (k0.h _)) .none) .some)
theorem l0_b ( k m1:Nat):∀ v:T0,run (cs m1) (loopN cs m1) b3 (kLoop cs m1 b3 (K3 k)) (s0 v) = d0 (l0 k m1) v:=fun (v0,v1,v2,v3)=>by kernel_rfl
theorem D0_of (v:T0) {r:R} (h:d0 D0 v = some r):D0 v = some r:=loop_of 1 (fun L n hn=>by show l0 (L 0) (L 1) v = _; rw [hn]; exact (held_eq _).trans ((loopN_succ _ _ _ _ _).trans (l0_b (L 0) n v))) (d0_cn (.mk fun v=>(D0_cn v).re [0,1]) v) h
noncomputable def f (k:Nat):Y:=fun v=>held (runFn cs k Tryz.f203 (sh.args v) (sh.slots v) dec)
noncomputable def F:Y:=lm f
def d (p0:Y0):Y:=fun v0 =>
p0 (0,v0,(↑v0.length:Int),0)
theorem d_cn (k0:Pr E T0 R):∀ v:A,Cn E (d k0.p v) fun i=>d (k0.q i) v:=fun v0=>(k0.h _)
theorem f_b (k:Nat):∀ v:A,f k v = d (l0 k k) v:=fun v0=>(held_eq _).trans (by kernel_rfl)
theorem F_of (v:A) {r:R} (h:d D0 v = some r):F v = some r:=join_of (fun L=>f_b (L 0) v) (d_cn (.mk fun v=>(D0_cn v).re [0,0]) v) h
noncomputable def spec (k:Nat):List AV→List Slot→Option Ans:=specS sh os (f k)
theorem spec_ok (k:Nat):SpecOk Tryz.prog 203 (spec k):=specS_ok cs_ok Tryz.func203 rfl rfl (fun _ _=>held_eq _) k
end g19
noncomputable def tg19:=tg18.cons 203 g19.spec g19.spec_ok
namespace g20 -- num_Wide_Cmp
abbrev R:Type:=Int
abbrev A:Type:=Int × Int × Int × Int
abbrev Y:=A→Option R
def lv:List (Nat × List Nat):=[(2000000,[4])]
noncomputable def cs:Nat→Ctx:=ctxOf tis modes tg19.1 lv
theorem cs_ok (n:Nat):CtxOk Tryz.prog (cs n):=ctxOf_ok rfl tis_ok tg19.2 n
def sh:AS:=⟨[.agg [.int .i64,.int .u64],.agg [.int .i64,.int .u64]],[]⟩
def os:OS:=⟨.c (.int .i64),[]⟩
def enc (r:R):Out:=os.enc r
def dec:Out→Option R:=os.dec
noncomputable def b0:Code:=subF [] Tryz.f173
noncomputable def K0 (k:Nat):Kt R:=kTop (cs k) Tryz.f173 dec
noncomputable def f (k:Nat):Y:=fun v=>held (runFn cs k Tryz.f173 (sh.args v) (sh.slots v) dec)
noncomputable def F:Y:=lm f
def d (p0:g16.Y) (p1:g18.Y) (p2:g19.Y):Y:=fun (v0,v1,v2,v3) =>
bnd (p0 (v0,v2)) fun r=>bnd (p1 (v1,v3)) fun r_1=>bnd (p2 [r,r_1]) fun r=>some r
theorem d_cn (k0:Pr E g16.A g16.R) (k1:Pr E g18.A g18.R) (k2:Pr E g19.A g19.R):∀ v:A,Cn E (d k0.p k1.p k2.p v) fun i=>d (k0.q i) (k1.q i) (k2.q i) v:=fun (v0,v1,v2,v3)=>(.bnd (k0.h _) fun _=>(.bnd (k1.h _) fun _=>(.bnd (k2.h _) fun _=>.some)))
theorem f_b (k:Nat):∀ v:A,f k v = d (g16.f k) (g18.f k) (g19.f k) v:=fun (v0,v1,v2,v3)=>(held_eq _).trans (by kernel_rfl)
theorem F_of (v:A) {r:R} (h:d g16.F g18.F g19.F v = some r):F v = some r:=join_of (fun L=>f_b (L 0) v) (d_cn (lp g16.f 0) (lp g18.f 0) (lp g19.f 0) v) h
noncomputable def spec (k:Nat):List AV→List Slot→Option Ans:=specS sh os (f k)
theorem spec_ok (k:Nat):SpecOk Tryz.prog 173 (spec k):=specS_ok cs_ok Tryz.func173 rfl rfl (fun _ _=>held_eq _) k
end g20
noncomputable def tg20:=tg19.cons 173 g20.spec g20.spec_ok
namespace g21 -- frac_Cmp
abbrev R:Type:=Int
abbrev A:Type:=Int × Int × Int × Int
abbrev Y:=A→Option R
def lv:List (Nat × List Nat):=[(2000000,[4])]
noncomputable def cs:Nat→Ctx:=ctxOf tis modes tg20.1 lv
theorem cs_ok (n:Nat):CtxOk Tryz.prog (cs n):=ctxOf_ok rfl tis_ok tg20.2 n
def sh:AS:=⟨[.agg [.int .i64,.int .i64],.agg [.int .i64,.int .i64]],[]⟩
def os:OS:=⟨.c (.int .i64),[]⟩
def enc (r:R):Out:=os.enc r
def dec:Out→Option R:=os.dec
noncomputable def b0:Code:=subF [] Tryz.f136
noncomputable def K0 (k:Nat):Kt R:=kTop (cs k) Tryz.f136 dec
noncomputable def f (k:Nat):Y:=fun v=>held (runFn cs k Tryz.f136 (sh.args v) (sh.slots v) dec)
noncomputable def F:Y:=lm f
def d (p0:g10.Y) (p1:g14.Y) (p2:g20.Y):Y:=fun (v0,v1,v2,v3) =>
bnd (p0 (v0,v1,v2,v3)) fun r=>br (!decide (r = 0)) (some 0) (bnd (p1 (v0,v3)) fun r=>bnd (p1 (v2,v1)) fun r_1=>bnd (p2 (r.1,r.2,r_1.1,r_1.2)) fun r=>some r)
theorem d_cn (k0:Pr E g10.A g10.R) (k1:Pr E g14.A g14.R) (k2:Pr E g20.A g20.R):∀ v:A,Cn E (d k0.p k1.p k2.p v) fun i=>d (k0.q i) (k1.q i) (k2.q i) v:=fun (v0,v1,v2,v3)=>(.bnd (k0.h _) fun _=>(.br .some (.bnd (k1.h _) fun _=>(.bnd (k1.h _) fun _=>(.bnd (k2.h _) fun _=>.some)))))
theorem f_b (k:Nat):∀ v:A,f k v = d (g10.f k) (g14.f k) (g20.f k) v:=fun (v0,v1,v2,v3)=>(held_eq _).trans (by kernel_rfl)
theorem F_of (v:A) {r:R} (h:d g10.F g14.F g20.F v = some r):F v = some r:=join_of (fun L=>f_b (L 0) v) (d_cn (lp g10.f 0) (lp g14.f 0) (lp g20.f 0) v) h
noncomputable def spec (k:Nat):List AV→List Slot→Option Ans:=specS sh os (f k)
theorem spec_ok (k:Nat):SpecOk Tryz.prog 136 (spec k):=specS_ok cs_ok Tryz.func136 rfl rfl (fun _ _=>held_eq _) k
end g21
noncomputable def tg21:=tg20.cons 136 g21.spec g21.spec_ok
namespace g22 -- prop_CheckSpin
abbrev R:Type:=Int
abbrev A:Type:=Int × Int × Int × Int
abbrev Y:=A→Option R
def lv:List (Nat × List Nat):=[(2000000,[2])]
noncomputable def cs:Nat→Ctx:=ctxOf tis modes tg21.1 lv
theorem cs_ok (n:Nat):CtxOk Tryz.prog (cs n):=ctxOf_ok rfl tis_ok tg21.2 n
def sh:AS:=⟨[(.agg [.int .i64,.int .i64,.int .i64,.int .i64])],[]⟩
def os:OS:=⟨.c (.int .i64),[]⟩
def enc (r:R):Out:=os.enc r
def dec:Out→Option R:=os.dec
noncomputable def b0:Code:=subF [] Tryz.f101
noncomputable def K0 (k:Nat):Kt R:=kTop (cs k) Tryz.f101 dec
noncomputable def f (k:Nat):Y:=fun v=>held (runFn cs k Tryz.f101 (sh.args v) (sh.slots v) dec)
noncomputable def F:Y:=lm f
def d (p0:g8.Y) (p1:g21.Y):Y:=fun (v0,v1,v2,v3) =>
bnd (p0 (v0,v1,v2,v3)) fun r=>br (!decide (r = 0)) (some r) (bnd (p1 (v2,v3,1,1)) fun r=>br (decide (r < 0) == false) (bnd (p1 (v2,v3,100,1)) fun r=>br (decide (0 < r)) (some 4) (some 0)) (some 4))
theorem d_cn (k0:Pr E g8.A g8.R) (k1:Pr E g21.A g21.R):∀ v:A,Cn E (d k0.p k1.p v) fun i=>d (k0.q i) (k1.q i) v:=fun (v0,v1,v2,v3)=>(.bnd (k0.h _) fun _=>(.br .some (.bnd (k1.h _) fun _=>(.br (.bnd (k1.h _) fun _=>(.br .some .some)) .some))))
theorem f_b (k:Nat):∀ v:A,f k v = d (g8.f k) (g21.f k) v:=fun (v0,v1,v2,v3)=>(held_eq _).trans (by kernel_rfl)
theorem F_of (v:A) {r:R} (h:d g8.F g21.F v = some r):F v = some r:=join_of (fun L=>f_b (L 0) v) (d_cn (lp g8.f 0) (lp g21.f 0) v) h
noncomputable def spec (k:Nat):List AV→List Slot→Option Ans:=specS sh os (f k)
theorem spec_ok (k:Nat):SpecOk Tryz.prog 101 (spec k):=specS_ok cs_ok Tryz.func101 rfl rfl (fun _ _=>held_eq _) k
end g22
noncomputable def tg22:=tg21.cons 101 g22.spec g22.spec_ok
namespace g23 -- sphere_Check
abbrev R:Type:=Int
abbrev A:Type:=Int × Int × Int
abbrev Y:=A→Option R
def lv:List (Nat × List Nat):=[(2000000,[2])]
noncomputable def cs:Nat→Ctx:=ctxOf tis modes tg22.1 lv
theorem cs_ok (n:Nat):CtxOk Tryz.prog (cs n):=ctxOf_ok rfl tis_ok tg22.2 n
def sh:AS:=⟨[(.agg [.int .i64,.int .i64,.int .i64])],[]⟩
def os:OS:=⟨.c (.int .i64),[]⟩
def enc (r:R):Out:=os.enc r
def dec:Out→Option R:=os.dec
noncomputable def b0:Code:=subF [] Tryz.f102
noncomputable def K0 (k:Nat):Kt R:=kTop (cs k) Tryz.f102 dec
noncomputable def f (k:Nat):Y:=fun v=>held (runFn cs k Tryz.f102 (sh.args v) (sh.slots v) dec)
noncomputable def F:Y:=lm f
def d:Y:=fun (v0,v1,v2) =>
br (decide (1048576 < max (max v0 v1) v2) || decide (min (min v0 v1) v2 < -1048576)) (some 4) (br (decide (v0 = 0) && (decide (v1 = 0) && (decide (v2 = 0) && true))) (some 8) (some 0))
theorem d_cn:∀ v:A,Cn E (d v) fun i=>d v:=fun (v0,v1,v2)=>(.br .some (.br .some .some))
theorem f_b (k:Nat):∀ v:A,f k v = d v:=fun (v0,v1,v2)=>(held_eq _).trans (by kernel_rfl)
theorem F_of (v:A) {r:R} (h:d v = some r):F v = some r:=join_of (fun L=>f_b (L 0) v) (d_cn v) h
noncomputable def spec (k:Nat):List AV→List Slot→Option Ans:=specS sh os (f k)
theorem spec_ok (k:Nat):SpecOk Tryz.prog 102 (spec k):=specS_ok cs_ok Tryz.func102 rfl rfl (fun _ _=>held_eq _) k
end g23
noncomputable def tg23:=tg22.cons 102 g23.spec g23.spec_ok
namespace g24 -- prop_CheckNight
abbrev R:Type:=Int
abbrev A:Type:=Int × Int × Int × Int × Int × Int × Int × Int × Int × Int × Int × Int × Int × Int × Int × Int × List Int
abbrev Y:=A→Option R
def lv:List (Nat × List Nat):=[(2000000,[2]),(17,[81,82,83])]
noncomputable def cs:Nat→Ctx:=ctxOf tis modes tg23.1 lv
theorem cs_ok (n:Nat):CtxOk Tryz.prog (cs n):=ctxOf_ok rfl tis_ok tg23.2 n
def sh:AS:=⟨[(.agg [.int .i64,.int .i64,.int .i64,.int .i64,.int .i64,.int .i64,.int .i64,.int .i64,.int .i64,.int .i64,.int .i64,.int .i64,.int .i64,.int .i64,.int .i64,.int .i64,.frz (.int .i64)])],[]⟩
def os:OS:=⟨.c (.int .i64),[]⟩
def enc (r:R):Out:=os.enc r
def dec:Out→Option R:=os.dec
noncomputable def b0:Code:=subF [] Tryz.f79
noncomputable def K0 (k:Nat):Kt R:=kTop (cs k) Tryz.f79 dec
noncomputable def b17:Code:=sub [1,1,1,1,1,1,1,1,0,1,0,0] b0
noncomputable def K17 ( k:Nat):Kt R:=kAt (cs k) (loopN cs k) [1,1,1,1,1,1,1,1,0,1,0] b0 (K0 k)
abbrev T0:Type:=List Int × Int × Int
abbrev Y0:=T0→Option R
def s0:T0→St:=fun (v0,v1,v2)=>⟨91,0,[(81,.c (.frz (.int .i64) v0)),(82,.c (.int .i64 v1)),(83,.c (.int .i64 v2))],[],[(256000000,.gone)]⟩
noncomputable def l0 ( k n:Nat) (v:T0):Option R:=held (loopN cs n b17 (K17 k) (s0 v))
noncomputable def D0 (v:T0):Option R:=lim fun L=>l0 (L 0) (L 1) v
theorem D0_cn (v:T0):Cn late (D0 v) fun L=>l0 (L 0) (L 1) v:=of_lim
def d0 (p0:g1.Y) (p1:Y0):Y0:=fun (v0,v1,v2) =>
br (decide (v2 < v1)) (br (decide (0 ≤ v2 ∧ v2 < (↑v0.length:Int))) (bnd (p0 (rd (Ty.int .i64) v0 v2,0,4)) fun r=>br (!r) (some 4) (p1 (v0,v1,wrap .i64 (v2 + 1)))) none) (some 0)
theorem d0_cn (k0:Pr E g1.A g1.R) (k1:Pr E T0 R):∀ v:T0,Cn E (d0 k0.p k1.p v) fun i=>d0 (k0.q i) (k1.q i) v:=fun (v0,v1,v2)=>(.br (.br (.bnd (k0.h _) fun _=>(.br .some (k1.h _))) .none) .some)
theorem l0_b ( k m1:Nat):∀ v:T0,run (cs m1) (loopN cs m1) b17 (kLoop cs m1 b17 (K17 k)) (s0 v) = d0 (g1.f m1) (l0 k m1) v:=fun (v0,v1,v2)=>by kernel_rfl
theorem D0_of (v:T0) {r:R} (h:d0 g1.F D0 v = some r):D0 v = some r:=loop_of 1 (fun L n hn=>by show l0 (L 0) (L 1) v = _; rw [hn]; exact (held_eq _).trans ((loopN_succ _ _ _ _ _).trans (l0_b (L 0) n v))) (d0_cn (lp g1.f 1) (.mk fun v=>(D0_cn v).re [0,1]) v) h
noncomputable def f (k:Nat):Y:=fun v=>held (runFn cs k Tryz.f79 (sh.args v) (sh.slots v) dec)
noncomputable def F:Y:=lm f
noncomputable def d (p0:g1.Y) (p1:g22.Y) (p2:g23.Y) (p3:Y0):Y:=fun (v0,v1,v2,v3,v4,v5,v6,v7,v8,v9,v10,v11,v12,v13,v14,v15,v16) =>
bnd (p0 (v8,1,64)) fun r=>br (!r || decide (v7 < 60000) || decide (1800000 < v7)) (some 4) (br (decide (v6 < -8796093022208) || decide (8796093022208 < v6)) (some 4) (br (decide (v0 < -1073741824) || decide (1073741824 < v0) || decide (v1 < 0) || decide (4294967296 ≤ v1)) (some 4) (bnd (p1 (v2,v3,v4,v5)) fun r=>br (!decide (r = 0)) (some r) (bnd (p2 (v9,v10,v11)) fun r=>br ((!decide (r = 0)) == false) (bnd (p2 (v12,v13,v14)) fun r=>br (!decide (r = 0)) (some 3) (br (decide (v15 < -1073741824) || decide (0 < v15)) (some 4) (br (!decide ((↑v16.length:Int) = v8)) (some 3) (p3 (v16,(↑v16.length:Int),0))))) (some 3)))))
theorem d_cn (k0:Pr E g1.A g1.R) (k1:Pr E g22.A g22.R) (k2:Pr E g23.A g23.R) (k3:Pr E T0 R):∀ v:A,Cn E (d k0.p k1.p k2.p k3.p v) fun i=>d (k0.q i) (k1.q i) (k2.q i) (k3.q i) v:=fun (v0,v1,v2,v3,v4,v5,v6,v7,v8,v9,v10,v11,v12,v13,v14,v15,v16)=>(.bnd (k0.h _) fun _=>(.br .some (.br .some (.br .some (.bnd (k1.h _) fun _=>(.br .some (.bnd (k2.h _) fun _=>(.br (.bnd (k2.h _) fun _=>(.br .some (.br .some (.br .some (k3.h _))))) .some))))))))
theorem f_b (k:Nat):∀ v:A,f k v = d (g1.f k) (g22.f k) (g23.f k) (l0 k k) v:=fun (v0,v1,v2,v3,v4,v5,v6,v7,v8,v9,v10,v11,v12,v13,v14,v15,v16)=>(held_eq _).trans (by kernel_rfl)
theorem F_of (v:A) {r:R} (h:d g1.F g22.F g23.F D0 v = some r):F v = some r:=join_of (fun L=>f_b (L 0) v) (d_cn (lp g1.f 0) (lp g22.f 0) (lp g23.f 0) (.mk fun v=>(D0_cn v).re [0,0]) v) h
noncomputable def spec (k:Nat):List AV→List Slot→Option Ans:=specS sh os (f k)
theorem spec_ok (k:Nat):SpecOk Tryz.prog 79 (spec k):=specS_ok cs_ok Tryz.func79 rfl rfl (fun _ _=>held_eq _) k
end g24
noncomputable def tg24:=tg23.cons 79 g24.spec g24.spec_ok
namespace g25 -- slew_CheckAxis
abbrev R:Type:=Int
abbrev A:Type:=Int × Int × Int × Int
abbrev Y:=A→Option R
def lv:List (Nat × List Nat):=[(2000000,[2])]
noncomputable def cs:Nat→Ctx:=ctxOf tis modes tg24.1 lv
theorem cs_ok (n:Nat):CtxOk Tryz.prog (cs n):=ctxOf_ok rfl tis_ok tg24.2 n
def sh:AS:=⟨[(.agg [.int .i64,.int .i64,.int .i64,.int .i64])],[]⟩
def os:OS:=⟨.c (.int .i64),[]⟩
def enc (r:R):Out:=os.enc r
def dec:Out→Option R:=os.dec
noncomputable def b0:Code:=subF [] Tryz.f115
noncomputable def K0 (k:Nat):Kt R:=kTop (cs k) Tryz.f115 dec
noncomputable def f (k:Nat):Y:=fun v=>held (runFn cs k Tryz.f115 (sh.args v) (sh.slots v) dec)
noncomputable def F:Y:=lm f
def d:Y:=fun (v0,v1,v2,v3) =>
br (decide (v0 < -17179869184) || decide (17179869184 < v1)) (some 4) (br (decide (v1 < v0)) (some 11) (br (decide (v2 < 16777216) || decide (1073741824 < v2) || decide (v2 < v3) || decide (v3 < 1) || decide (wrap .i64 (v3 * 64) < v2)) (some 4) (some 0)))
theorem d_cn:∀ v:A,Cn E (d v) fun i=>d v:=fun (v0,v1,v2,v3)=>(.br .some (.br .some (.br .some .some)))
theorem f_b (k:Nat):∀ v:A,f k v = d v:=fun (v0,v1,v2,v3)=>(held_eq _).trans (by kernel_rfl)
theorem F_of (v:A) {r:R} (h:d v = some r):F v = some r:=join_of (fun L=>f_b (L 0) v) (d_cn v) h
noncomputable def spec (k:Nat):List AV→List Slot→Option Ans:=specS sh os (f k)
theorem spec_ok (k:Nat):SpecOk Tryz.prog 115 (spec k):=specS_ok cs_ok Tryz.func115 rfl rfl (fun _ _=>held_eq _) k
end g25
noncomputable def tg25:=tg24.cons 115 g25.spec g25.spec_ok
namespace g26 -- slew_In
abbrev R:Type:=Bool
abbrev A:Type:=Int × Int × Int × Int × Int
abbrev Y:=A→Option R
def lv:List (Nat × List Nat):=[(2000000,[4])]
noncomputable def cs:Nat→Ctx:=ctxOf tis modes tg25.1 lv
theorem cs_ok (n:Nat):CtxOk Tryz.prog (cs n):=ctxOf_ok rfl tis_ok tg25.2 n
def sh:AS:=⟨[.agg [.int .i64,.int .i64,.int .i64,.int .i64],.c (.int .i64)],[]⟩
def os:OS:=⟨.c .bool,[]⟩
def enc (r:R):Out:=os.enc r
def dec:Out→Option R:=os.dec
noncomputable def b0:Code:=subF [] Tryz.f57
noncomputable def K0 (k:Nat):Kt R:=kTop (cs k) Tryz.f57 dec
noncomputable def f (k:Nat):Y:=fun v=>held (runFn cs k Tryz.f57 (sh.args v) (sh.slots v) dec)
noncomputable def F:Y:=lm f
def d:Y:=fun (v0,v1,v2,v3,v4) =>
some (decide (v0 ≤ v4) && decide (v4 ≤ v1))
theorem d_cn:∀ v:A,Cn E (d v) fun i=>d v:=fun (v0,v1,v2,v3,v4)=>.some
theorem f_b (k:Nat):∀ v:A,f k v = d v:=fun (v0,v1,v2,v3,v4)=>(held_eq _).trans (by kernel_rfl)
theorem F_of (v:A) {r:R} (h:d v = some r):F v = some r:=join_of (fun L=>f_b (L 0) v) (d_cn v) h
noncomputable def spec (k:Nat):List AV→List Slot→Option Ans:=specS sh os (f k)
theorem spec_ok (k:Nat):SpecOk Tryz.prog 57 (spec k):=specS_ok cs_ok Tryz.func57 rfl rfl (fun _ _=>held_eq _) k
end g26
noncomputable def tg26:=tg25.cons 57 g26.spec g26.spec_ok
namespace g27 -- slew_CheckMount
abbrev R:Type:=Int
abbrev A:Type:=Int × Int × Int × Int × Int × Int × Int × Int × Int × Int
abbrev Y:=A→Option R
def lv:List (Nat × List Nat):=[(2000000,[2])]
noncomputable def cs:Nat→Ctx:=ctxOf tis modes tg26.1 lv
theorem cs_ok (n:Nat):CtxOk Tryz.prog (cs n):=ctxOf_ok rfl tis_ok tg26.2 n
def sh:AS:=⟨[(.agg [.int .i64,.int .i64,.int .i64,.int .i64,.int .i64,.int .i64,.int .i64,.int .i64,.int .i64,.int .i64])],[]⟩
def os:OS:=⟨.c (.int .i64),[]⟩
def enc (r:R):Out:=os.enc r
def dec:Out→Option R:=os.dec
noncomputable def b0:Code:=subF [] Tryz.f87
noncomputable def K0 (k:Nat):Kt R:=kTop (cs k) Tryz.f87 dec
noncomputable def f (k:Nat):Y:=fun v=>held (runFn cs k Tryz.f87 (sh.args v) (sh.slots v) dec)
noncomputable def F:Y:=lm f
def d (p0:g25.Y) (p1:g26.Y):Y:=fun (v0,v1,v2,v3,v4,v5,v6,v7,v8,v9) =>
bnd (p0 (v0,v1,v2,v3)) fun r=>br (!decide (r = 0)) (some r) (bnd (p0 (v4,v5,v6,v7)) fun r=>br (!decide (r = 0)) (some r) (bnd (p1 (v0,v1,v2,v3,v8)) fun r=>br ((!r) == false) (bnd (p1 (v4,v5,v6,v7,v9)) fun r=>br (!r) (some 4) (some 0)) (some 4)))
theorem d_cn (k0:Pr E g25.A g25.R) (k1:Pr E g26.A g26.R):∀ v:A,Cn E (d k0.p k1.p v) fun i=>d (k0.q i) (k1.q i) v:=fun (v0,v1,v2,v3,v4,v5,v6,v7,v8,v9)=>(.bnd (k0.h _) fun _=>(.br .some (.bnd (k0.h _) fun _=>(.br .some (.bnd (k1.h _) fun _=>(.br (.bnd (k1.h _) fun _=>(.br .some .some)) .some))))))
theorem f_b (k:Nat):∀ v:A,f k v = d (g25.f k) (g26.f k) v:=fun (v0,v1,v2,v3,v4,v5,v6,v7,v8,v9)=>(held_eq _).trans (by kernel_rfl)
theorem F_of (v:A) {r:R} (h:d g25.F g26.F v = some r):F v = some r:=join_of (fun L=>f_b (L 0) v) (d_cn (lp g25.f 0) (lp g26.f 0) v) h
noncomputable def spec (k:Nat):List AV→List Slot→Option Ans:=specS sh os (f k)
theorem spec_ok (k:Nat):SpecOk Tryz.prog 87 (spec k):=specS_ok cs_ok Tryz.func87 rfl rfl (fun _ _=>held_eq _) k
end g27
noncomputable def tg27:=tg26.cons 87 g27.spec g27.spec_ok
namespace g28 -- prop_Name
abbrev R:Type:=Bool
abbrev A:Type:=ByteArray
abbrev Y:=A→Option R
def lv:List (Nat × List Nat):=[(2000000,[2]),(4,[0,3])]
noncomputable def cs:Nat→Ctx:=ctxOf tis modes tg27.1 lv
theorem cs_ok (n:Nat):CtxOk Tryz.prog (cs n):=ctxOf_ok rfl tis_ok tg27.2 n
def sh:AS:=⟨[(.c .str)],[]⟩
def os:OS:=⟨.c .bool,[]⟩
def enc (r:R):Out:=os.enc r
def dec:Out→Option R:=os.dec
noncomputable def b0:Code:=subF [] Tryz.f129
noncomputable def K0 (k:Nat):Kt R:=kTop (cs k) Tryz.f129 dec
noncomputable def b4:Code:=sub [1,1,0,1,0,0] b0
noncomputable def K4 ( k:Nat):Kt R:=kAt (cs k) (loopN cs k) [1,1,0,1,0] b0 (K0 k)
abbrev T0:Type:=ByteArray × Int
abbrev Y0:=T0→Option R
def s0:T0→St:=fun (v0,v1)=>⟨47,0,[(0,.c (.str v0)),(3,.c (.int .i64 v1))],[],[(256000000,.gone)]⟩
noncomputable def l0 ( k n:Nat) (v:T0):Option R:=held (loopN cs n b4 (K4 k) (s0 v))
noncomputable def D0 (v:T0):Option R:=lim fun L=>l0 (L 0) (L 1) v
theorem D0_cn (v:T0):Cn late (D0 v) fun L=>l0 (L 0) (L 1) v:=of_lim
def d0 (p0:Y0):Y0:=fun (v0,v1) =>
br (decide (v1 < (↑v0.size:Int))) (br (decide (0 ≤ v1 ∧ v1 < (↑v0.size:Int))) (br (!(decide (97 ≤ (↑(v0.data.getD v1.toNat 0).toNat:Int)) && decide ((↑(v0.data.getD v1.toNat 0).toNat:Int) ≤ 122)) && (decide (v1 = 0) || (decide ((↑(v0.data.getD v1.toNat 0).toNat:Int) < 48) || decide (57 < (↑(v0.data.getD v1.toNat 0).toNat:Int))) && !decide ((↑(v0.data.getD v1.toNat 0).toNat:Int) = 45))) (some false) (p0 (v0,wrap .i64 (v1 + 1)))) none) (some true)
theorem d0_cn (k0:Pr E T0 R):∀ v:T0,Cn E (d0 k0.p v) fun i=>d0 (k0.q i) v:=fun (v0,v1)=>(.br (.br (.br .some (k0.h _)) .none) .some)
theorem l0_b ( k m1:Nat):∀ v:T0,run (cs m1) (loopN cs m1) b4 (kLoop cs m1 b4 (K4 k)) (s0 v) = d0 (l0 k m1) v:=fun (v0,v1)=>by kernel_rfl
theorem D0_of (v:T0) {r:R} (h:d0 D0 v = some r):D0 v = some r:=loop_of 1 (fun L n hn=>by show l0 (L 0) (L 1) v = _; rw [hn]; exact (held_eq _).trans ((loopN_succ _ _ _ _ _).trans (l0_b (L 0) n v))) (d0_cn (.mk fun v=>(D0_cn v).re [0,1]) v) h
noncomputable def f (k:Nat):Y:=fun v=>held (runFn cs k Tryz.f129 (sh.args v) (sh.slots v) dec)
noncomputable def F:Y:=lm f
def d (p0:Y0):Y:=fun v0 =>
br (decide ((↑v0.size:Int) = 0) || decide (12 < (↑v0.size:Int))) (some false) (p0 (v0,0))
theorem d_cn (k0:Pr E T0 R):∀ v:A,Cn E (d k0.p v) fun i=>d (k0.q i) v:=fun v0=>(.br .some (k0.h _))
theorem f_b (k:Nat):∀ v:A,f k v = d (l0 k k) v:=fun v0=>(held_eq _).trans (by kernel_rfl)
theorem F_of (v:A) {r:R} (h:d D0 v = some r):F v = some r:=join_of (fun L=>f_b (L 0) v) (d_cn (.mk fun v=>(D0_cn v).re [0,0]) v) h
noncomputable def spec (k:Nat):List AV→List Slot→Option Ans:=specS sh os (f k)
theorem spec_ok (k:Nat):SpecOk Tryz.prog 129 (spec k):=specS_ok cs_ok Tryz.func129 rfl rfl (fun _ _=>held_eq _) k
end g28
noncomputable def tg28:=tg27.cons 129 g28.spec g28.spec_ok
namespace g29 -- prop_CheckProposal
abbrev R:Type:=Int
abbrev A:Type:=ByteArray × Int
abbrev Y:=A→Option R
def lv:List (Nat × List Nat):=[(2000000,[2])]
noncomputable def cs:Nat→Ctx:=ctxOf tis modes tg28.1 lv
theorem cs_ok (n:Nat):CtxOk Tryz.prog (cs n):=ctxOf_ok rfl tis_ok tg28.2 n
def sh:AS:=⟨[(.agg [.str,.int .i64])],[]⟩
def os:OS:=⟨.c (.int .i64),[]⟩
def enc (r:R):Out:=os.enc r
def dec:Out→Option R:=os.dec
noncomputable def b0:Code:=subF [] Tryz.f92
noncomputable def K0 (k:Nat):Kt R:=kTop (cs k) Tryz.f92 dec
noncomputable def f (k:Nat):Y:=fun v=>held (runFn cs k Tryz.f92 (sh.args v) (sh.slots v) dec)
noncomputable def F:Y:=lm f
def d (p0:g28.Y) (p1:g1.Y):Y:=fun (v0,v1) =>
bnd (p0 v0) fun r=>br (!r) (some 6) (bnd (p1 (v1,1,100)) fun r=>br (!r) (some 4) (some 0))
theorem d_cn (k0:Pr E g28.A g28.R) (k1:Pr E g1.A g1.R):∀ v:A,Cn E (d k0.p k1.p v) fun i=>d (k0.q i) (k1.q i) v:=fun (v0,v1)=>(.bnd (k0.h _) fun _=>(.br .some (.bnd (k1.h _) fun _=>(.br .some .some))))
theorem f_b (k:Nat):∀ v:A,f k v = d (g28.f k) (g1.f k) v:=fun (v0,v1)=>(held_eq _).trans (by kernel_rfl)
theorem F_of (v:A) {r:R} (h:d g28.F g1.F v = some r):F v = some r:=join_of (fun L=>f_b (L 0) v) (d_cn (lp g28.f 0) (lp g1.f 0) v) h
noncomputable def spec (k:Nat):List AV→List Slot→Option Ans:=specS sh os (f k)
theorem spec_ok (k:Nat):SpecOk Tryz.prog 92 (spec k):=specS_ok cs_ok Tryz.func92 rfl rfl (fun _ _=>held_eq _) k
end g29
noncomputable def tg29:=tg28.cons 92 g29.spec g29.spec_ok
namespace g30 -- prop_CheckRequest
abbrev R:Type:=Int
abbrev A:Type:=Int × Int × Int × Int × Int × Int × Int × Int × Int × Int × Int × Int × Int
abbrev Y:=A→Option R
def lv:List (Nat × List Nat):=[(2000000,[2]),(1000012,[1])]
noncomputable def cs:Nat→Ctx:=ctxOf tis modes tg29.1 lv
theorem cs_ok (n:Nat):CtxOk Tryz.prog (cs n):=ctxOf_ok rfl tis_ok tg29.2 n
def sh:AS:=⟨[(.agg [.int .i64,.int .i64,.int .i64,.int .i64,.int .i64,.int .i64,.int .i64,.int .i64,.int .i64,.int .i64,.int .i64,.int .i64,.int .i64])],[]⟩
def os:OS:=⟨.c (.int .i64),[]⟩
def enc (r:R):Out:=os.enc r
def dec:Out→Option R:=os.dec
noncomputable def b0:Code:=subF [] Tryz.f80
noncomputable def K0 (k:Nat):Kt R:=kTop (cs k) Tryz.f80 dec
noncomputable def c1000012:Code:=sub [1,1,1,1,1] b0
noncomputable def J1000012 ( k:Nat):Kt R:=kAt (cs k) (loopN cs k) [1,1,1,1,1] b0 (K0 k)
abbrev T0:Type:=Int × Int × Int × Int × Int × Int × Int × Int × Int × Int × Int × Int × Int
abbrev Y0:=T0→Option R
def s0:T0→St:=fun (v0,v1,v2,v3,v4,v5,v6,v7,v8,v9,v10,v11,v12)=>⟨72,0,[(1,.c (.ptr 64000000 0))],[],[(256000000,.gone),(64000000,.box [.int .i64 v0,.int .i64 v1,.int .i64 v2,.int .i64 v3,.int .i64 v4,.int .i64 v5,.int .i64 v6,.int .i64 v7,.int .i64 v8,.int .i64 v9,.int .i64 v10,.int .i64 v11,.int .i64 v12])]⟩
noncomputable def l0 ( k:Nat) (v:T0):Option R:=held (run (cs k) (loopN cs k) c1000012 (J1000012 k) (s0 v))
noncomputable def D0 (v:T0):Option R:=lim fun L=>l0 (L 0) v
theorem D0_cn (v:T0):Cn late (D0 v) fun L=>l0 (L 0) v:=of_lim
def d0 (p0:g1.Y):Y0:=fun (v0,v1,v2,v3,v4,v5,v6,v7,v8,v9,v10,v11,v12) =>
br (decide (v9 < -1073741824) || decide (1073741824 < v9) || decide (v10 < -1073741824) || decide (1073741824 < v10)) (some 4) (bnd (p0 (v11,0,4)) fun r=>br ((!r) == false) (bnd (p0 (v12,1,100)) fun r=>br (!r) (some 4) (some 0)) (some 4))
theorem d0_cn (k0:Pr E g1.A g1.R):∀ v:T0,Cn E (d0 k0.p v) fun i=>d0 (k0.q i) v:=fun (v0,v1,v2,v3,v4,v5,v6,v7,v8,v9,v10,v11,v12)=>(.br .some (.bnd (k0.h _) fun _=>(.br (.bnd (k0.h _) fun _=>(.br .some .some)) .some)))
theorem l0_b ( k:Nat):∀ v:T0,run (cs k) (loopN cs k) c1000012 (J1000012 k) (s0 v) = d0 (g1.f k) v:=fun (v0,v1,v2,v3,v4,v5,v6,v7,v8,v9,v10,v11,v12)=>by kernel_rfl
theorem D0_of (v:T0) {r:R} (h:d0 g1.F v = some r):D0 v = some r:=join_of (fun L=>(held_eq _).trans (l0_b (L 0) v)) (d0_cn (lp g1.f 0) v) h
noncomputable def f (k:Nat):Y:=fun v=>held (runFn cs k Tryz.f80 (sh.args v) (sh.slots v) dec)
noncomputable def F:Y:=lm f
def d (p0:g1.Y) (p1:g23.Y) (p2:Y0):Y:=fun (v0,v1,v2,v3,v4,v5,v6,v7,v8,v9,v10,v11,v12) =>
bnd (p0 (v0,1,999999)) fun r=>br (!r) (some 4) (bnd (p1 (v2,v3,v4)) fun r=>br (!decide (r = 0)) (some 3) (bnd (p0 (v5,1,8)) fun r=>br ((!r) == false) (bnd (p0 (v6,1,4)) fun r=>br (!r) (some 4) (br (decide (v6 = 1)) (br (!decide (v7 = 0) || !decide (v8 = 0)) (some 3) (p2 (v0,v1,v2,v3,v4,v5,v6,v7,v8,v9,v10,v11,v12))) (bnd (p0 (v7,1,64)) fun r=>br ((!r) == false) (bnd (p0 (v8,v7,64)) fun r=>br (!r) (some 4) (p2 (v0,v1,v2,v3,v4,v5,v6,v7,v8,v9,v10,v11,v12))) (some 4)))) (some 4)))
theorem d_cn (k0:Pr E g1.A g1.R) (k1:Pr E g23.A g23.R) (k2:Pr E T0 R):∀ v:A,Cn E (d k0.p k1.p k2.p v) fun i=>d (k0.q i) (k1.q i) (k2.q i) v:=fun (v0,v1,v2,v3,v4,v5,v6,v7,v8,v9,v10,v11,v12)=>(.bnd (k0.h _) fun _=>(.br .some (.bnd (k1.h _) fun _=>(.br .some (.bnd (k0.h _) fun _=>(.br (.bnd (k0.h _) fun _=>(.br .some (.br (.br .some (k2.h _)) (.bnd (k0.h _) fun _=>(.br (.bnd (k0.h _) fun _=>(.br .some (k2.h _))) .some))))) .some))))))
theorem f_b (k:Nat):∀ v:A,f k v = d (g1.f k) (g23.f k) (l0 k) v:=fun (v0,v1,v2,v3,v4,v5,v6,v7,v8,v9,v10,v11,v12)=>(held_eq _).trans (by kernel_rfl)
theorem F_of (v:A) {r:R} (h:d g1.F g23.F D0 v = some r):F v = some r:=join_of (fun L=>f_b (L 0) v) (d_cn (lp g1.f 0) (lp g23.f 0) (.mk fun v=>(D0_cn v).re [0]) v) h
noncomputable def spec (k:Nat):List AV→List Slot→Option Ans:=specS sh os (f k)
theorem spec_ok (k:Nat):SpecOk Tryz.prog 80 (spec k):=specS_ok cs_ok Tryz.func80 rfl rfl (fun _ _=>held_eq _) k
end g30
noncomputable def tg30:=tg29.cons 80 g30.spec g30.spec_ok
namespace g31 -- prop_Check
abbrev R:Type:=Int
abbrev A:Type:=List (ByteArray × Int) × List (Int × Int × (Int × Int × Int) × Int × Int × Int × Int × Int × Int × Int × Int)
abbrev Y:=A→Option R
def lv:List (Nat × List Nat):=[(2000000,[2]),(5,[1,3,23,24,25]),(16,[1,7,44,45,46])]
noncomputable def cs:Nat→Ctx:=ctxOf tis modes tg30.1 lv
theorem cs_ok (n:Nat):CtxOk Tryz.prog (cs n):=ctxOf_ok rfl tis_ok tg30.2 n
def sh:AS:=⟨[(.agg [.frz y19,.frz y27])],[]⟩
def os:OS:=⟨.c (.int .i64),[]⟩
def enc (r:R):Out:=os.enc r
def dec:Out→Option R:=os.dec
noncomputable def b0:Code:=subF [] Tryz.f65
noncomputable def K0 (k:Nat):Kt R:=kTop (cs k) Tryz.f65 dec
noncomputable def b5:Code:=sub [1,1,1,0,1,0,0] b0
noncomputable def K5 ( k:Nat):Kt R:=kAt (cs k) (loopN cs k) [1,1,1,0,1,0] b0 (K0 k)
noncomputable def b16:Code:=sub [1,1,1,1,1,0,1,0,0] b0
noncomputable def K16 ( k:Nat):Kt R:=kAt (cs k) (loopN cs k) [1,1,1,1,1,0,1,0] b0 (K0 k)
abbrev T0:Type:=List (ByteArray × Int) × Int × Int × List (ByteArray × Int) × List (Int × Int × (Int × Int × Int) × Int × Int × Int × Int × Int × Int × Int × Int) × List (ByteArray × Bool × Int) × Int
abbrev Y0:=T0→Option R
def s0:T0→St:=fun (v0,v1,v2,v3,v4,v5,v6)=>⟨71,0,[(1,.c (.ptr 64000000 0)),(3,.c (.map 64000001)),(23,.c (.frz y19 v0)),(24,.c (.int .i64 v1)),(25,.c (.int .i64 v2))],[],[(256000000,.gone),(64000000,.box [.frz y19 v3,.frz y27 v4]),(64000001,.mp .str .bool v5 v6)]⟩
noncomputable def l0 ( k n:Nat) (v:T0):Option R:=held (loopN cs n b5 (K5 k) (s0 v))
noncomputable def D0 (v:T0):Option R:=lim fun L=>l0 (L 0) (L 1) v
theorem D0_cn (v:T0):Cn late (D0 v) fun L=>l0 (L 0) (L 1) v:=of_lim
abbrev T1:Type:=List (Int × Int × (Int × Int × Int) × Int × Int × Int × Int × Int × Int × Int × Int) × Int × Int × List (ByteArray × Int) × List (Int × Int × (Int × Int × Int) × Int × Int × Int × Int × Int × Int × Int × Int) × List (Int × Bool × Int) × Int
abbrev Y1:=T1→Option R
def s1:T1→St:=fun (v0,v1,v2,v3,v4,v5,v6)=>⟨71,0,[(1,.c (.ptr 64000000 0)),(7,.c (.map 64000001)),(44,.c (.frz y27 v0)),(45,.c (.int .i64 v1)),(46,.c (.int .i64 v2))],[],[(256000000,.gone),(64000000,.box [.frz y19 v3,.frz y27 v4]),(64000001,.mp (.int .i64) .bool v5 v6)]⟩
noncomputable def l1 ( k n:Nat) (v:T1):Option R:=held (loopN cs n b16 (K16 k) (s1 v))
noncomputable def D1 (v:T1):Option R:=lim fun L=>l1 (L 0) (L 1) v
theorem D1_cn (v:T1):Cn late (D1 v) fun L=>l1 (L 0) (L 1) v:=of_lim
def d0 (p0:g29.Y) (p1:Y0) (p2:Y1):Y0:=fun (v0,v1,v2,v3,v4,v5,v6) =>
br (decide (v2 < v1)) (br (decide (0 ≤ v2 ∧ v2 < (↑v0.length:Int))) (bnd (p0 ((rd (Ty.str.pair (Ty.int .i64)) v0 v2).1,(rd (Ty.str.pair (Ty.int .i64)) v0 v2).2)) fun r=>br (!decide (r = 0)) (some r) (br (mGet Ty.str Ty.bool v5 (rd (Ty.str.pair (Ty.int .i64)) v0 v2).1) (some 7) (p1 (v0,v1,wrap .i64 (v2 + 1),v3,v4,mPut Ty.str Ty.bool v5 v6 (rd (Ty.str.pair (Ty.int .i64)) v0 v2).1 true,mClk Ty.str Ty.bool v5 v6 (rd (Ty.str.pair (Ty.int .i64)) v0 v2).1)))) none) (p2 (v4,(↑v4.length:Int),0,v3,v4,[],0))
theorem d0_cn (k0:Pr E g29.A g29.R) (k1:Pr E T0 R) (k2:Pr E T1 R):∀ v:T0,Cn E (d0 k0.p k1.p k2.p v) fun i=>d0 (k0.q i) (k1.q i) (k2.q i) v:=fun (v0,v1,v2,v3,v4,v5,v6)=>(.br (.br (.bnd (k0.h _) fun _=>(.br .some (.br .some (k1.h _)))) .none) (k2.h _))
theorem l0_b ( k m1:Nat):∀ v:T0,run (cs m1) (loopN cs m1) b5 (kLoop cs m1 b5 (K5 k)) (s0 v) = d0 (g29.f m1) (l0 k m1) (l1 k k) v:=fun (v0,v1,v2,v3,v4,v5,v6)=>by kernel_rfl
theorem D0_of (v:T0) {r:R} (h:d0 g29.F D0 D1 v = some r):D0 v = some r:=loop_of 1 (fun L n hn=>by show l0 (L 0) (L 1) v = _; rw [hn]; exact (held_eq _).trans ((loopN_succ _ _ _ _ _).trans (l0_b (L 0) n v))) (d0_cn (lp g29.f 1) (.mk fun v=>(D0_cn v).re [0,1]) (.mk fun v=>(D1_cn v).re [0,0]) v) h
noncomputable def d1 (p0:g30.Y) (p1:g1.Y) (p2:Y1):Y1:=fun (v0,v1,v2,v3,v4,v5,v6) =>
br (decide (v2 < v1)) (br (decide (0 ≤ v2 ∧ v2 < (↑v0.length:Int))) (bnd (p0 ((rd ty0 v0 v2).1,(rd ty0 v0 v2).2.1,(rd ty0 v0 v2).2.2.1.1,(rd ty0 v0 v2).2.2.1.2.1,(rd ty0 v0 v2).2.2.1.2.2,(rd ty0 v0 v2).2.2.2.1,(rd ty0 v0 v2).2.2.2.2.1,(rd ty0 v0 v2).2.2.2.2.2.1,(rd ty0 v0 v2).2.2.2.2.2.2.1,(rd ty0 v0 v2).2.2.2.2.2.2.2.1,(rd ty0 v0 v2).2.2.2.2.2.2.2.2.1,(rd ty0 v0 v2).2.2.2.2.2.2.2.2.2.1,(rd ty0 v0 v2).2.2.2.2.2.2.2.2.2.2)) fun r=>br (!decide (r = 0)) (some r) (br (mGet (Ty.int .i64) Ty.bool v5 (rd ty0 v0 v2).1) (some 7) (bnd (p1 ((rd ty0 v0 v2).2.1,0,wrap .i64 ((↑v3.length:Int) - 1))) fun r=>br (!r) (some 8) (p2 (v0,v1,wrap .i64 (v2 + 1),v3,v4,mPut (Ty.int .i64) Ty.bool v5 v6 (rd ty0 v0 v2).1 true,mClk (Ty.int .i64) Ty.bool v5 v6 (rd ty0 v0 v2).1))))) none) (some 0)
theorem d1_cn (k0:Pr E g30.A g30.R) (k1:Pr E g1.A g1.R) (k2:Pr E T1 R):∀ v:T1,Cn E (d1 k0.p k1.p k2.p v) fun i=>d1 (k0.q i) (k1.q i) (k2.q i) v:=fun (v0,v1,v2,v3,v4,v5,v6)=>(.br (.br (.bnd (k0.h _) fun _=>(.br .some (.br .some (.bnd (k1.h _) fun _=>(.br .some (k2.h _)))))) .none) .some)
theorem l1_b ( k m1:Nat):∀ v:T1,run (cs m1) (loopN cs m1) b16 (kLoop cs m1 b16 (K16 k)) (s1 v) = d1 (g30.f m1) (g1.f m1) (l1 k m1) v:=fun (v0,v1,v2,v3,v4,v5,v6)=>by kernel_rfl
theorem D1_of (v:T1) {r:R} (h:d1 g30.F g1.F D1 v = some r):D1 v = some r:=loop_of 1 (fun L n hn=>by show l1 (L 0) (L 1) v = _; rw [hn]; exact (held_eq _).trans ((loopN_succ _ _ _ _ _).trans (l1_b (L 0) n v))) (d1_cn (lp g30.f 1) (lp g1.f 1) (.mk fun v=>(D1_cn v).re [0,1]) v) h
noncomputable def f (k:Nat):Y:=fun v=>held (runFn cs k Tryz.f65 (sh.args v) (sh.slots v) dec)
noncomputable def F:Y:=lm f
def d (p0:Y0):Y:=fun (v0,v1) =>
br (decide (6 < (↑v0.length:Int)) || decide (16 < (↑v1.length:Int))) (some 2) (p0 (v0,(↑v0.length:Int),0,v0,v1,[],0))
theorem d_cn (k0:Pr E T0 R):∀ v:A,Cn E (d k0.p v) fun i=>d (k0.q i) v:=fun (v0,v1)=>(.br .some (k0.h _))
theorem f_b (k:Nat):∀ v:A,f k v = d (l0 k k) v:=fun (v0,v1)=>(held_eq _).trans (by kernel_rfl)
theorem F_of (v:A) {r:R} (h:d D0 v = some r):F v = some r:=join_of (fun L=>f_b (L 0) v) (d_cn (.mk fun v=>(D0_cn v).re [0,0]) v) h
noncomputable def spec (k:Nat):List AV→List Slot→Option Ans:=specS sh os (f k)
theorem spec_ok (k:Nat):SpecOk Tryz.prog 65 (spec k):=specS_ok cs_ok Tryz.func65 rfl rfl (fun _ _=>held_eq _) k
end g31
noncomputable def tg31:=tg30.cons 65 g31.spec g31.spec_ok
namespace g32 -- plan_CheckAll
abbrev R:Type:=Int
abbrev A:Type:=Int × Int × Int × Int × Int × Int × Int × Int × Int × Int × Int × Int × Int × Int × Int × Int × List Int × Int × Int × Int × Int × Int × Int × Int × Int × Int × Int × List (ByteArray × Int) × List (Int × Int × (Int × Int × Int) × Int × Int × Int × Int × Int × Int × Int × Int)
abbrev Y:=A→Option R
def lv:List (Nat × List Nat):=[(2000000,[6])]
noncomputable def cs:Nat→Ctx:=ctxOf tis modes tg31.1 lv
theorem cs_ok (n:Nat):CtxOk Tryz.prog (cs n):=ctxOf_ok rfl tis_ok tg31.2 n
def sh:AS:=⟨[.agg [.int .i64,.int .i64,.int .i64,.int .i64,.int .i64,.int .i64,.int .i64,.int .i64,.int .i64,.int .i64,.int .i64,.int .i64,.int .i64,.int .i64,.int .i64,.int .i64,.frz (.int .i64)],.agg [.int .i64,.int .i64,.int .i64,.int .i64,.int .i64,.int .i64,.int .i64,.int .i64,.int .i64,.int .i64],.agg [.frz y19,.frz y27]],[]⟩
def os:OS:=⟨.c (.int .i64),[]⟩
def enc (r:R):Out:=os.enc r
def dec:Out→Option R:=os.dec
noncomputable def b0:Code:=subF [] Tryz.f58
noncomputable def K0 (k:Nat):Kt R:=kTop (cs k) Tryz.f58 dec
noncomputable def f (k:Nat):Y:=fun v=>held (runFn cs k Tryz.f58 (sh.args v) (sh.slots v) dec)
noncomputable def F:Y:=lm f
def d (p0:g24.Y) (p1:g27.Y) (p2:g31.Y):Y:=fun (v0,v1,v2,v3,v4,v5,v6,v7,v8,v9,v10,v11,v12,v13,v14,v15,v16,v17,v18,v19,v20,v21,v22,v23,v24,v25,v26,v27,v28) =>
bnd (p0 (v0,v1,v2,v3,v4,v5,v6,v7,v8,v9,v10,v11,v12,v13,v14,v15,v16)) fun r=>br (!decide (r = 0)) (some r) (bnd (p1 (v17,v18,v19,v20,v21,v22,v23,v24,v25,v26)) fun r=>br (!decide (r = 0)) (some r) (bnd (p2 (v27,v28)) fun r=>some r))
theorem d_cn (k0:Pr E g24.A g24.R) (k1:Pr E g27.A g27.R) (k2:Pr E g31.A g31.R):∀ v:A,Cn E (d k0.p k1.p k2.p v) fun i=>d (k0.q i) (k1.q i) (k2.q i) v:=fun (v0,v1,v2,v3,v4,v5,v6,v7,v8,v9,v10,v11,v12,v13,v14,v15,v16,v17,v18,v19,v20,v21,v22,v23,v24,v25,v26,v27,v28)=>(.bnd (k0.h _) fun _=>(.br .some (.bnd (k1.h _) fun _=>(.br .some (.bnd (k2.h _) fun _=>.some)))))
theorem f_b (k:Nat):∀ v:A,f k v = d (g24.f k) (g27.f k) (g31.f k) v:=fun (v0,v1,v2,v3,v4,v5,v6,v7,v8,v9,v10,v11,v12,v13,v14,v15,v16,v17,v18,v19,v20,v21,v22,v23,v24,v25,v26,v27,v28)=>(held_eq _).trans (by kernel_rfl)
theorem F_of (v:A) {r:R} (h:d g24.F g27.F g31.F v = some r):F v = some r:=join_of (fun L=>f_b (L 0) v) (d_cn (lp g24.f 0) (lp g27.f 0) (lp g31.f 0) v) h
noncomputable def spec (k:Nat):List AV→List Slot→Option Ans:=specS sh os (f k)
theorem spec_ok (k:Nat):SpecOk Tryz.prog 58 (spec k):=specS_ok cs_ok Tryz.func58 rfl rfl (fun _ _=>held_eq _) k
end g32
noncomputable def tg32:=tg31.cons 58 g32.spec g32.spec_ok
namespace g33 -- slices_Clone_int
abbrev R:Type:=List Int
abbrev A:Type:=List Int
abbrev Y:=A→Option R
def lv:List (Nat × List Nat):=[(2000000,[2])]
noncomputable def cs:Nat→Ctx:=ctxOf tis modes tg32.1 lv
theorem cs_ok (n:Nat):CtxOk Tryz.prog (cs n):=ctxOf_ok rfl tis_ok tg32.2 n
def sh:AS:=⟨[(.c (.frz (.int .i64)))],[]⟩
def os:OS:=⟨.c (.sl 128000000),[(.row (.int .i64))]⟩
def enc (r:R):Out:=os.enc r
def dec:Out→Option R:=os.dec
noncomputable def b0:Code:=subF [] Tryz.f59
noncomputable def K0 (k:Nat):Kt R:=kTop (cs k) Tryz.f59 dec
noncomputable def f (k:Nat):Y:=fun v=>held (runFn cs k Tryz.f59 (sh.args v) (sh.slots v) dec)
noncomputable def F:Y:=lm f
noncomputable def d:Y:=fun v0 =>
br (decide (v0.length = 0)) (both (some []) (br (decide (0 + v0.length ≤ 140737488355328 / 8)) (some ([] ++ v0)) none)) (br (decide (0 + v0.length ≤ 140737488355328 / 8)) (some ([] ++ v0)) none)
theorem d_cn:∀ v:A,Cn E (d v) fun i=>d v:=fun v0=>(.br (.both .some (.br .some .none)) (.br .some .none))
theorem f_b (k:Nat):∀ v:A,f k v = d v:=fun v0=>(held_eq _).trans (by kernel_rfl)
theorem F_of (v:A) {r:R} (h:d v = some r):F v = some r:=join_of (fun L=>f_b (L 0) v) (d_cn v) h
noncomputable def spec (k:Nat):List AV→List Slot→Option Ans:=specS sh os (f k)
theorem spec_ok (k:Nat):SpecOk Tryz.prog 59 (spec k):=specS_ok cs_ok Tryz.func59 rfl rfl (fun _ _=>held_eq _) k
end g33
noncomputable def tg33:=tg32.cons 59 g33.spec g33.spec_ok
namespace g34 -- slices_Clone_Proposal
abbrev R:Type:=List (ByteArray × Int)
abbrev A:Type:=List (ByteArray × Int)
abbrev Y:=A→Option R
def lv:List (Nat × List Nat):=[(2000000,[2])]
noncomputable def cs:Nat→Ctx:=ctxOf tis modes tg33.1 lv
theorem cs_ok (n:Nat):CtxOk Tryz.prog (cs n):=ctxOf_ok rfl tis_ok tg33.2 n
def sh:AS:=⟨[(.c (.frz y19))],[]⟩
def os:OS:=⟨.c (.sl 128000000),[(.row y19)]⟩
def enc (r:R):Out:=os.enc r
def dec:Out→Option R:=os.dec
noncomputable def b0:Code:=subF [] Tryz.f50
noncomputable def K0 (k:Nat):Kt R:=kTop (cs k) Tryz.f50 dec
noncomputable def f (k:Nat):Y:=fun v=>held (runFn cs k Tryz.f50 (sh.args v) (sh.slots v) dec)
noncomputable def F:Y:=lm f
noncomputable def d:Y:=fun v0 =>
br (decide (v0.length = 0)) (both (some []) (br (decide (0 + v0.length ≤ 140737488355328 / 24)) (some ([] ++ v0)) none)) (br (decide (0 + v0.length ≤ 140737488355328 / 24)) (some ([] ++ v0)) none)
theorem d_cn:∀ v:A,Cn E (d v) fun i=>d v:=fun v0=>(.br (.both .some (.br .some .none)) (.br .some .none))
theorem f_b (k:Nat):∀ v:A,f k v = d v:=fun v0=>(held_eq _).trans (by kernel_rfl)
theorem F_of (v:A) {r:R} (h:d v = some r):F v = some r:=join_of (fun L=>f_b (L 0) v) (d_cn v) h
noncomputable def spec (k:Nat):List AV→List Slot→Option Ans:=specS sh os (f k)
theorem spec_ok (k:Nat):SpecOk Tryz.prog 50 (spec k):=specS_ok cs_ok Tryz.func50 rfl rfl (fun _ _=>held_eq _) k
end g34
noncomputable def tg34:=tg33.cons 50 g34.spec g34.spec_ok
namespace g35 -- slices_Clone_Request
abbrev R:Type:=List (Int × Int × (Int × Int × Int) × Int × Int × Int × Int × Int × Int × Int × Int)
abbrev A:Type:=List (Int × Int × (Int × Int × Int) × Int × Int × Int × Int × Int × Int × Int × Int)
abbrev Y:=A→Option R
def lv:List (Nat × List Nat):=[(2000000,[2])]
noncomputable def cs:Nat→Ctx:=ctxOf tis modes tg34.1 lv
theorem cs_ok (n:Nat):CtxOk Tryz.prog (cs n):=ctxOf_ok rfl tis_ok tg34.2 n
def sh:AS:=⟨[(.c (.frz y27))],[]⟩
def os:OS:=⟨.c (.sl 128000000),[(.row y27)]⟩
def enc (r:R):Out:=os.enc r
def dec:Out→Option R:=os.dec
noncomputable def b0:Code:=subF [] Tryz.f51
noncomputable def K0 (k:Nat):Kt R:=kTop (cs k) Tryz.f51 dec
noncomputable def f (k:Nat):Y:=fun v=>held (runFn cs k Tryz.f51 (sh.args v) (sh.slots v) dec)
noncomputable def F:Y:=lm f
noncomputable def d:Y:=fun v0 =>
br (decide (v0.length = 0)) (both (some []) (br (decide (0 + v0.length ≤ 140737488355328 / 104)) (some ([] ++ v0)) none)) (br (decide (0 + v0.length ≤ 140737488355328 / 104)) (some ([] ++ v0)) none)
theorem d_cn:∀ v:A,Cn E (d v) fun i=>d v:=fun v0=>(.br (.both .some (.br .some .none)) (.br .some .none))
theorem f_b (k:Nat):∀ v:A,f k v = d v:=fun v0=>(held_eq _).trans (by kernel_rfl)
theorem F_of (v:A) {r:R} (h:d v = some r):F v = some r:=join_of (fun L=>f_b (L 0) v) (d_cn v) h
noncomputable def spec (k:Nat):List AV→List Slot→Option Ans:=specS sh os (f k)
theorem spec_ok (k:Nat):SpecOk Tryz.prog 51 (spec k):=specS_ok cs_ok Tryz.func51 rfl rfl (fun _ _=>held_eq _) k
end g35
noncomputable def tg35:=tg34.cons 51 g35.spec g35.spec_ok
namespace g36 -- window_both
abbrev R:Type:=Int
abbrev A:Type:=Int × Int × Int × Int × Int × Int × Int × Int × Int × Int × Int × Int × Int × Int × Int × Int × List Int × Int × Int × Int × Int × Int × Int × Int × Int × Int × Int × Int × Int × Int
abbrev Y:=A→Option R
def lv:List (Nat × List Nat):=[(2000000,[4])]
noncomputable def cs:Nat→Ctx:=ctxOf tis modes tg35.1 lv
theorem cs_ok (n:Nat):CtxOk Tryz.prog (cs n):=ctxOf_ok rfl tis_ok tg35.2 n
def sh:AS:=⟨[.agg [.int .i64,.int .i64,.int .i64,.int .i64,.int .i64,.int .i64,.int .i64,.int .i64,.int .i64,.int .i64,.int .i64,.int .i64,.int .i64,.int .i64,.int .i64,.int .i64,.frz (.int .i64)],.agg [.int .i64,.int .i64,.int .i64,.int .i64,.int .i64,.int .i64,.int .i64,.int .i64,.int .i64,.int .i64,.int .i64,.int .i64,.int .i64]],[]⟩
def os:OS:=⟨.c (.int .i64),[]⟩
def enc (r:R):Out:=os.enc r
def dec:Out→Option R:=os.dec
noncomputable def b0:Code:=subF [] Tryz.f52
noncomputable def K0 (k:Nat):Kt R:=kTop (cs k) Tryz.f52 dec
noncomputable def f (k:Nat):Y:=fun v=>held (runFn cs k Tryz.f52 (sh.args v) (sh.slots v) dec)
noncomputable def F:Y:=lm f
def d (p0:g24.Y) (p1:g30.Y):Y:=fun (v0,v1,v2,v3,v4,v5,v6,v7,v8,v9,v10,v11,v12,v13,v14,v15,v16,v17,v18,v19,v20,v21,v22,v23,v24,v25,v26,v27,v28,v29) =>
bnd (p0 (v0,v1,v2,v3,v4,v5,v6,v7,v8,v9,v10,v11,v12,v13,v14,v15,v16)) fun r=>br (!decide (r = 0)) (some r) (bnd (p1 (v17,v18,v19,v20,v21,v22,v23,v24,v25,v26,v27,v28,v29)) fun r=>some r)
theorem d_cn (k0:Pr E g24.A g24.R) (k1:Pr E g30.A g30.R):∀ v:A,Cn E (d k0.p k1.p v) fun i=>d (k0.q i) (k1.q i) v:=fun (v0,v1,v2,v3,v4,v5,v6,v7,v8,v9,v10,v11,v12,v13,v14,v15,v16,v17,v18,v19,v20,v21,v22,v23,v24,v25,v26,v27,v28,v29)=>(.bnd (k0.h _) fun _=>(.br .some (.bnd (k1.h _) fun _=>.some)))
theorem f_b (k:Nat):∀ v:A,f k v = d (g24.f k) (g30.f k) v:=fun (v0,v1,v2,v3,v4,v5,v6,v7,v8,v9,v10,v11,v12,v13,v14,v15,v16,v17,v18,v19,v20,v21,v22,v23,v24,v25,v26,v27,v28,v29)=>(held_eq _).trans (by kernel_rfl)
theorem F_of (v:A) {r:R} (h:d g24.F g30.F v = some r):F v = some r:=join_of (fun L=>f_b (L 0) v) (d_cn (lp g24.f 0) (lp g30.f 0) v) h
noncomputable def spec (k:Nat):List AV→List Slot→Option Ans:=specS sh os (f k)
theorem spec_ok (k:Nat):SpecOk Tryz.prog 52 (spec k):=specS_ok cs_ok Tryz.func52 rfl rfl (fun _ _=>held_eq _) k
end g36
noncomputable def tg36:=tg35.cons 52 g36.spec g36.spec_ok
namespace g37 -- window_when
abbrev R:Type:=Int × Int × Bool
abbrev A:Type:=Int × Int × Int × Int × Int × Int × Int × Int × Int × Int × Int × Int × Int × Int × Int × Int × List Int × Int × Int
abbrev Y:=A→Option R
def lv:List (Nat × List Nat):=[(2000000,[6])]
noncomputable def cs:Nat→Ctx:=ctxOf tis modes tg36.1 lv
theorem cs_ok (n:Nat):CtxOk Tryz.prog (cs n):=ctxOf_ok rfl tis_ok tg36.2 n
def sh:AS:=⟨[.agg [.int .i64,.int .i64,.int .i64,.int .i64,.int .i64,.int .i64,.int .i64,.int .i64,.int .i64,.int .i64,.int .i64,.int .i64,.int .i64,.int .i64,.int .i64,.int .i64,.frz (.int .i64)],.c (.int .i64),.c (.int .i64)],[]⟩
def os:OS:=⟨.agg [.int .i64,.int .i64,.bool],[]⟩
def enc (r:R):Out:=os.enc r
def dec:Out→Option R:=os.dec
noncomputable def b0:Code:=subF [] Tryz.f105
noncomputable def K0 (k:Nat):Kt R:=kTop (cs k) Tryz.f105 dec
noncomputable def f (k:Nat):Y:=fun v=>held (runFn cs k Tryz.f105 (sh.args v) (sh.slots v) dec)
noncomputable def F:Y:=lm f
def d:Y:=fun (v0,v1,v2,v3,v4,v5,v6,v7,v8,v9,v10,v11,v12,v13,v14,v15,v16,v17,v18) =>
some (wrap .i64 (v6 + wrap .i64 (v17 * v7)),wrap .i64 (v6 + wrap .i64 (v18 * v7)),false)
theorem d_cn:∀ v:A,Cn E (d v) fun i=>d v:=fun (v0,v1,v2,v3,v4,v5,v6,v7,v8,v9,v10,v11,v12,v13,v14,v15,v16,v17,v18)=>.some
theorem f_b (k:Nat):∀ v:A,f k v = d v:=fun (v0,v1,v2,v3,v4,v5,v6,v7,v8,v9,v10,v11,v12,v13,v14,v15,v16,v17,v18)=>(held_eq _).trans (by kernel_rfl)
theorem F_of (v:A) {r:R} (h:d v = some r):F v = some r:=join_of (fun L=>f_b (L 0) v) (d_cn v) h
noncomputable def spec (k:Nat):List AV→List Slot→Option Ans:=specS sh os (f k)
theorem spec_ok (k:Nat):SpecOk Tryz.prog 105 (spec k):=specS_ok cs_ok Tryz.func105 rfl rfl (fun _ _=>held_eq _) k
end g37
noncomputable def tg37:=tg36.cons 105 g37.spec g37.spec_ok
namespace g38 -- bound_Check_Tick
abbrev R:Type:=Int
abbrev A:Type:=Int × Int × Bool
abbrev Y:=A→Option R
def lv:List (Nat × List Nat):=[(2000000,[2])]
noncomputable def cs:Nat→Ctx:=ctxOf tis modes tg37.1 lv
theorem cs_ok (n:Nat):CtxOk Tryz.prog (cs n):=ctxOf_ok rfl tis_ok tg37.2 n
def sh:AS:=⟨[(.agg [.int .i64,.int .i64,.bool])],[]⟩
def os:OS:=⟨.c (.int .i64),[]⟩
def enc (r:R):Out:=os.enc r
def dec:Out→Option R:=os.dec
noncomputable def b0:Code:=subF [] Tryz.f222
noncomputable def K0 (k:Nat):Kt R:=kTop (cs k) Tryz.f222 dec
noncomputable def f (k:Nat):Y:=fun v=>held (runFn cs k Tryz.f222 (sh.args v) (sh.slots v) dec)
noncomputable def F:Y:=lm f
def d:Y:=fun (v0,v1,v2) =>
br (v2 && (!decide (v0 = 0) || !decide (v1 = 0))) (some 3) (br (decide (min v0 v1 < -1152921504606846976) || decide (1152921504606846976 < max v0 v1)) (some 4) (br (decide (v1 < v0)) (some 11) (some 0)))
theorem d_cn:∀ v:A,Cn E (d v) fun i=>d v:=fun (v0,v1,v2)=>(.br .some (.br .some (.br .some .some)))
theorem f_b (k:Nat):∀ v:A,f k v = d v:=fun (v0,v1,v2)=>(held_eq _).trans (by kernel_rfl)
theorem F_of (v:A) {r:R} (h:d v = some r):F v = some r:=join_of (fun L=>f_b (L 0) v) (d_cn v) h
noncomputable def spec (k:Nat):List AV→List Slot→Option Ans:=specS sh os (f k)
theorem spec_ok (k:Nat):SpecOk Tryz.prog 222 (spec k):=specS_ok cs_ok Tryz.func222 rfl rfl (fun _ _=>held_eq _) k
end g38
noncomputable def tg38:=tg37.cons 222 g38.spec g38.spec_ok
namespace g39 -- bound_None_Tick
abbrev R:Type:=Int × Int × Bool
abbrev A:Type:=Unit
abbrev Y:=A→Option R
def lv:List (Nat × List Nat):=[(2000000,[0])]
noncomputable def cs:Nat→Ctx:=ctxOf tis modes tg38.1 lv
theorem cs_ok (n:Nat):CtxOk Tryz.prog (cs n):=ctxOf_ok rfl tis_ok tg38.2 n
def sh:AS:=⟨[],[]⟩
def os:OS:=⟨.agg [.int .i64,.int .i64,.bool],[]⟩
def enc (r:R):Out:=os.enc r
def dec:Out→Option R:=os.dec
noncomputable def b0:Code:=subF [] Tryz.f211
noncomputable def K0 (k:Nat):Kt R:=kTop (cs k) Tryz.f211 dec
noncomputable def f (k:Nat):Y:=fun v=>held (runFn cs k Tryz.f211 (sh.args v) (sh.slots v) dec)
noncomputable def F:Y:=lm f
def d:Y:=fun _ =>
some (0,0,true)
theorem d_cn:∀ v:A,Cn E (d v) fun i=>d v:=fun _=>.some
theorem f_b (k:Nat):∀ v:A,f k v = d v:=fun _=>(held_eq _).trans (by kernel_rfl)
theorem F_of (v:A) {r:R} (h:d v = some r):F v = some r:=join_of (fun L=>f_b (L 0) v) (d_cn v) h
noncomputable def spec (k:Nat):List AV→List Slot→Option Ans:=specS sh os (f k)
theorem spec_ok (k:Nat):SpecOk Tryz.prog 211 (spec k):=specS_ok cs_ok Tryz.func211 rfl rfl (fun _ _=>held_eq _) k
end g39
noncomputable def tg39:=tg38.cons 211 g39.spec g39.spec_ok
namespace g40 -- bound_Norm_Tick
abbrev R:Type:=Int × Int × Bool
abbrev A:Type:=Int × Int × Bool
abbrev Y:=A→Option R
def lv:List (Nat × List Nat):=[(2000000,[2])]
noncomputable def cs:Nat→Ctx:=ctxOf tis modes tg39.1 lv
theorem cs_ok (n:Nat):CtxOk Tryz.prog (cs n):=ctxOf_ok rfl tis_ok tg39.2 n
def sh:AS:=⟨[(.agg [.int .i64,.int .i64,.bool])],[]⟩
def os:OS:=⟨.agg [.int .i64,.int .i64,.bool],[]⟩
def enc (r:R):Out:=os.enc r
def dec:Out→Option R:=os.dec
noncomputable def b0:Code:=subF [] Tryz.f212
noncomputable def K0 (k:Nat):Kt R:=kTop (cs k) Tryz.f212 dec
noncomputable def f (k:Nat):Y:=fun v=>held (runFn cs k Tryz.f212 (sh.args v) (sh.slots v) dec)
noncomputable def F:Y:=lm f
def d (p0:g38.Y) (p1:g39.Y):Y:=fun (v0,v1,v2) =>
bnd (p0 (v0,v1,v2)) fun r=>br (!decide (r = 0)) (bnd (p1 ()) fun r=>some (r.1,r.2.1,r.2.2)) (some (v0,v1,v2))
theorem d_cn (k0:Pr E g38.A g38.R) (k1:Pr E g39.A g39.R):∀ v:A,Cn E (d k0.p k1.p v) fun i=>d (k0.q i) (k1.q i) v:=fun (v0,v1,v2)=>(.bnd (k0.h _) fun _=>(.br (.bnd (k1.h _) fun _=>.some) .some))
theorem f_b (k:Nat):∀ v:A,f k v = d (g38.f k) (g39.f k) v:=fun (v0,v1,v2)=>(held_eq _).trans (by kernel_rfl)
theorem F_of (v:A) {r:R} (h:d g38.F g39.F v = some r):F v = some r:=join_of (fun L=>f_b (L 0) v) (d_cn (lp g38.f 0) (lp g39.f 0) v) h
noncomputable def spec (k:Nat):List AV→List Slot→Option Ans:=specS sh os (f k)
theorem spec_ok (k:Nat):SpecOk Tryz.prog 212 (spec k):=specS_ok cs_ok Tryz.func212 rfl rfl (fun _ _=>held_eq _) k
end g40
noncomputable def tg40:=tg39.cons 212 g40.spec g40.spec_ok
namespace g41 -- bound_Of_Tick
abbrev R:Type:=Int × Int × Bool
abbrev A:Type:=Int × Int
abbrev Y:=A→Option R
def lv:List (Nat × List Nat):=[(2000000,[4])]
noncomputable def cs:Nat→Ctx:=ctxOf tis modes tg40.1 lv
theorem cs_ok (n:Nat):CtxOk Tryz.prog (cs n):=ctxOf_ok rfl tis_ok tg40.2 n
def sh:AS:=⟨[.c (.int .i64),.c (.int .i64)],[]⟩
def os:OS:=⟨.agg [.int .i64,.int .i64,.bool],[]⟩
def enc (r:R):Out:=os.enc r
def dec:Out→Option R:=os.dec
noncomputable def b0:Code:=subF [] Tryz.f186
noncomputable def K0 (k:Nat):Kt R:=kTop (cs k) Tryz.f186 dec
noncomputable def f (k:Nat):Y:=fun v=>held (runFn cs k Tryz.f186 (sh.args v) (sh.slots v) dec)
noncomputable def F:Y:=lm f
def d (p0:g40.Y):Y:=fun (v0,v1) =>
bnd (p0 (v0,v1,false)) fun r=>some (r.1,r.2.1,r.2.2)
theorem d_cn (k0:Pr E g40.A g40.R):∀ v:A,Cn E (d k0.p v) fun i=>d (k0.q i) v:=fun (v0,v1)=>(.bnd (k0.h _) fun _=>.some)
theorem f_b (k:Nat):∀ v:A,f k v = d (g40.f k) v:=fun (v0,v1)=>(held_eq _).trans (by kernel_rfl)
theorem F_of (v:A) {r:R} (h:d g40.F v = some r):F v = some r:=join_of (fun L=>f_b (L 0) v) (d_cn (lp g40.f 0) v) h
noncomputable def spec (k:Nat):List AV→List Slot→Option Ans:=specS sh os (f k)
theorem spec_ok (k:Nat):SpecOk Tryz.prog 186 (spec k):=specS_ok cs_ok Tryz.func186 rfl rfl (fun _ _=>held_eq _) k
end g41
noncomputable def tg41:=tg40.cons 186 g41.spec g41.spec_ok
namespace g42 -- bound_Exact_Tick
abbrev R:Type:=Int × Int × Bool
abbrev A:Type:=Int
abbrev Y:=A→Option R
def lv:List (Nat × List Nat):=[(2000000,[2])]
noncomputable def cs:Nat→Ctx:=ctxOf tis modes tg41.1 lv
theorem cs_ok (n:Nat):CtxOk Tryz.prog (cs n):=ctxOf_ok rfl tis_ok tg41.2 n
def sh:AS:=⟨[(.c (.int .i64))],[]⟩
def os:OS:=⟨.agg [.int .i64,.int .i64,.bool],[]⟩
def enc (r:R):Out:=os.enc r
def dec:Out→Option R:=os.dec
noncomputable def b0:Code:=subF [] Tryz.f151
noncomputable def K0 (k:Nat):Kt R:=kTop (cs k) Tryz.f151 dec
noncomputable def f (k:Nat):Y:=fun v=>held (runFn cs k Tryz.f151 (sh.args v) (sh.slots v) dec)
noncomputable def F:Y:=lm f
def d (p0:g41.Y):Y:=fun v0 =>
bnd (p0 (v0,v0)) fun r=>some (r.1,r.2.1,r.2.2)
theorem d_cn (k0:Pr E g41.A g41.R):∀ v:A,Cn E (d k0.p v) fun i=>d (k0.q i) v:=fun v0=>(.bnd (k0.h _) fun _=>.some)
theorem f_b (k:Nat):∀ v:A,f k v = d (g41.f k) v:=fun v0=>(held_eq _).trans (by kernel_rfl)
theorem F_of (v:A) {r:R} (h:d g41.F v = some r):F v = some r:=join_of (fun L=>f_b (L 0) v) (d_cn (lp g41.f 0) v) h
noncomputable def spec (k:Nat):List AV→List Slot→Option Ans:=specS sh os (f k)
theorem spec_ok (k:Nat):SpecOk Tryz.prog 151 (spec k):=specS_ok cs_ok Tryz.func151 rfl rfl (fun _ _=>held_eq _) k
end g42
noncomputable def tg42:=tg41.cons 151 g42.spec g42.spec_ok
namespace g43 -- bound_Neg_Tick
abbrev R:Type:=Int × Int × Bool
abbrev A:Type:=Int × Int × Bool
abbrev Y:=A→Option R
def lv:List (Nat × List Nat):=[(2000000,[2])]
noncomputable def cs:Nat→Ctx:=ctxOf tis modes tg42.1 lv
theorem cs_ok (n:Nat):CtxOk Tryz.prog (cs n):=ctxOf_ok rfl tis_ok tg42.2 n
def sh:AS:=⟨[(.agg [.int .i64,.int .i64,.bool])],[]⟩
def os:OS:=⟨.agg [.int .i64,.int .i64,.bool],[]⟩
def enc (r:R):Out:=os.enc r
def dec:Out→Option R:=os.dec
noncomputable def b0:Code:=subF [] Tryz.f185
noncomputable def K0 (k:Nat):Kt R:=kTop (cs k) Tryz.f185 dec
noncomputable def f (k:Nat):Y:=fun v=>held (runFn cs k Tryz.f185 (sh.args v) (sh.slots v) dec)
noncomputable def F:Y:=lm f
def d (p0:g40.Y):Y:=fun (v0,v1,v2) =>
bnd (p0 (v0,v1,v2)) fun r=>some (wrap .i64 (0 - r.2.1),wrap .i64 (0 - r.1),r.2.2)
theorem d_cn (k0:Pr E g40.A g40.R):∀ v:A,Cn E (d k0.p v) fun i=>d (k0.q i) v:=fun (v0,v1,v2)=>(.bnd (k0.h _) fun _=>.some)
theorem f_b (k:Nat):∀ v:A,f k v = d (g40.f k) v:=fun (v0,v1,v2)=>(held_eq _).trans (by kernel_rfl)
theorem F_of (v:A) {r:R} (h:d g40.F v = some r):F v = some r:=join_of (fun L=>f_b (L 0) v) (d_cn (lp g40.f 0) v) h
noncomputable def spec (k:Nat):List AV→List Slot→Option Ans:=specS sh os (f k)
theorem spec_ok (k:Nat):SpecOk Tryz.prog 185 (spec k):=specS_ok cs_ok Tryz.func185 rfl rfl (fun _ _=>held_eq _) k
end g43
noncomputable def tg43:=tg42.cons 185 g43.spec g43.spec_ok
namespace g44 -- bound_vague_Tick
abbrev R:Type:=Bool
abbrev A:Type:=Int × Int × Bool × Int × Int × Bool
abbrev Y:=A→Option R
def lv:List (Nat × List Nat):=[(2000000,[4])]
noncomputable def cs:Nat→Ctx:=ctxOf tis modes tg43.1 lv
theorem cs_ok (n:Nat):CtxOk Tryz.prog (cs n):=ctxOf_ok rfl tis_ok tg43.2 n
def sh:AS:=⟨[.agg [.int .i64,.int .i64,.bool],.agg [.int .i64,.int .i64,.bool]],[]⟩
def os:OS:=⟨.c .bool,[]⟩
def enc (r:R):Out:=os.enc r
def dec:Out→Option R:=os.dec
noncomputable def b0:Code:=subF [] Tryz.f210
noncomputable def K0 (k:Nat):Kt R:=kTop (cs k) Tryz.f210 dec
noncomputable def f (k:Nat):Y:=fun v=>held (runFn cs k Tryz.f210 (sh.args v) (sh.slots v) dec)
noncomputable def F:Y:=lm f
def d (p0:g40.Y):Y:=fun (v0,v1,v2,v3,v4,v5) =>
bnd (p0 (v0,v1,v2)) fun r=>br (r.2.2 == false) (bnd (p0 (v3,v4,v5)) fun r=>some r.2.2) (some true)
theorem d_cn (k0:Pr E g40.A g40.R):∀ v:A,Cn E (d k0.p v) fun i=>d (k0.q i) v:=fun (v0,v1,v2,v3,v4,v5)=>(.bnd (k0.h _) fun _=>(.br (.bnd (k0.h _) fun _=>.some) .some))
theorem f_b (k:Nat):∀ v:A,f k v = d (g40.f k) v:=fun (v0,v1,v2,v3,v4,v5)=>(held_eq _).trans (by kernel_rfl)
theorem F_of (v:A) {r:R} (h:d g40.F v = some r):F v = some r:=join_of (fun L=>f_b (L 0) v) (d_cn (lp g40.f 0) v) h
noncomputable def spec (k:Nat):List AV→List Slot→Option Ans:=specS sh os (f k)
theorem spec_ok (k:Nat):SpecOk Tryz.prog 210 (spec k):=specS_ok cs_ok Tryz.func210 rfl rfl (fun _ _=>held_eq _) k
end g44
noncomputable def tg44:=tg43.cons 210 g44.spec g44.spec_ok
namespace g45 -- bound_Add_Tick
abbrev R:Type:=Int × Int × Bool
abbrev A:Type:=Int × Int × Bool × Int × Int × Bool
abbrev Y:=A→Option R
def lv:List (Nat × List Nat):=[(2000000,[4])]
noncomputable def cs:Nat→Ctx:=ctxOf tis modes tg44.1 lv
theorem cs_ok (n:Nat):CtxOk Tryz.prog (cs n):=ctxOf_ok rfl tis_ok tg44.2 n
def sh:AS:=⟨[.agg [.int .i64,.int .i64,.bool],.agg [.int .i64,.int .i64,.bool]],[]⟩
def os:OS:=⟨.agg [.int .i64,.int .i64,.bool],[]⟩
def enc (r:R):Out:=os.enc r
def dec:Out→Option R:=os.dec
noncomputable def b0:Code:=subF [] Tryz.f184
noncomputable def K0 (k:Nat):Kt R:=kTop (cs k) Tryz.f184 dec
noncomputable def f (k:Nat):Y:=fun v=>held (runFn cs k Tryz.f184 (sh.args v) (sh.slots v) dec)
noncomputable def F:Y:=lm f
def d (p0:g44.Y) (p1:g39.Y) (p2:g41.Y):Y:=fun (v0,v1,v2,v3,v4,v5) =>
bnd (p0 (v0,v1,v2,v3,v4,v5)) fun r=>br r (bnd (p1 ()) fun r=>some (r.1,r.2.1,r.2.2)) (bnd (p2 (wrap .i64 (v0 + v3),wrap .i64 (v1 + v4))) fun r=>some (r.1,r.2.1,r.2.2))
theorem d_cn (k0:Pr E g44.A g44.R) (k1:Pr E g39.A g39.R) (k2:Pr E g41.A g41.R):∀ v:A,Cn E (d k0.p k1.p k2.p v) fun i=>d (k0.q i) (k1.q i) (k2.q i) v:=fun (v0,v1,v2,v3,v4,v5)=>(.bnd (k0.h _) fun _=>(.br (.bnd (k1.h _) fun _=>.some) (.bnd (k2.h _) fun _=>.some)))
theorem f_b (k:Nat):∀ v:A,f k v = d (g44.f k) (g39.f k) (g41.f k) v:=fun (v0,v1,v2,v3,v4,v5)=>(held_eq _).trans (by kernel_rfl)
theorem F_of (v:A) {r:R} (h:d g44.F g39.F g41.F v = some r):F v = some r:=join_of (fun L=>f_b (L 0) v) (d_cn (lp g44.f 0) (lp g39.f 0) (lp g41.f 0) v) h
noncomputable def spec (k:Nat):List AV→List Slot→Option Ans:=specS sh os (f k)
theorem spec_ok (k:Nat):SpecOk Tryz.prog 184 (spec k):=specS_ok cs_ok Tryz.func184 rfl rfl (fun _ _=>held_eq _) k
end g45
noncomputable def tg45:=tg44.cons 184 g45.spec g45.spec_ok
namespace g46 -- bound_Sub_Tick
abbrev R:Type:=Int × Int × Bool
abbrev A:Type:=Int × Int × Bool × Int × Int × Bool
abbrev Y:=A→Option R
def lv:List (Nat × List Nat):=[(2000000,[4])]
noncomputable def cs:Nat→Ctx:=ctxOf tis modes tg45.1 lv
theorem cs_ok (n:Nat):CtxOk Tryz.prog (cs n):=ctxOf_ok rfl tis_ok tg45.2 n
def sh:AS:=⟨[.agg [.int .i64,.int .i64,.bool],.agg [.int .i64,.int .i64,.bool]],[]⟩
def os:OS:=⟨.agg [.int .i64,.int .i64,.bool],[]⟩
def enc (r:R):Out:=os.enc r
def dec:Out→Option R:=os.dec
noncomputable def b0:Code:=subF [] Tryz.f150
noncomputable def K0 (k:Nat):Kt R:=kTop (cs k) Tryz.f150 dec
noncomputable def f (k:Nat):Y:=fun v=>held (runFn cs k Tryz.f150 (sh.args v) (sh.slots v) dec)
noncomputable def F:Y:=lm f
def d (p0:g43.Y) (p1:g45.Y):Y:=fun (v0,v1,v2,v3,v4,v5) =>
bnd (p0 (v3,v4,v5)) fun r=>bnd (p1 (v0,v1,v2,r.1,r.2.1,r.2.2)) fun r=>some (r.1,r.2.1,r.2.2)
theorem d_cn (k0:Pr E g43.A g43.R) (k1:Pr E g45.A g45.R):∀ v:A,Cn E (d k0.p k1.p v) fun i=>d (k0.q i) (k1.q i) v:=fun (v0,v1,v2,v3,v4,v5)=>(.bnd (k0.h _) fun _=>(.bnd (k1.h _) fun _=>.some))
theorem f_b (k:Nat):∀ v:A,f k v = d (g43.f k) (g45.f k) v:=fun (v0,v1,v2,v3,v4,v5)=>(held_eq _).trans (by kernel_rfl)
theorem F_of (v:A) {r:R} (h:d g43.F g45.F v = some r):F v = some r:=join_of (fun L=>f_b (L 0) v) (d_cn (lp g43.f 0) (lp g45.f 0) v) h
noncomputable def spec (k:Nat):List AV→List Slot→Option Ans:=specS sh os (f k)
theorem spec_ok (k:Nat):SpecOk Tryz.prog 150 (spec k):=specS_ok cs_ok Tryz.func150 rfl rfl (fun _ _=>held_eq _) k
end g46
noncomputable def tg46:=tg45.cons 150 g46.spec g46.spec_ok
namespace g47 -- bound_None_Arc
abbrev R:Type:=Int × Int × Bool
abbrev A:Type:=Unit
abbrev Y:=A→Option R
def lv:List (Nat × List Nat):=[(2000000,[0])]
noncomputable def cs:Nat→Ctx:=ctxOf tis modes tg46.1 lv
theorem cs_ok (n:Nat):CtxOk Tryz.prog (cs n):=ctxOf_ok rfl tis_ok tg46.2 n
def sh:AS:=⟨[],[]⟩
def os:OS:=⟨.agg [.int .i64,.int .i64,.bool],[]⟩
def enc (r:R):Out:=os.enc r
def dec:Out→Option R:=os.dec
noncomputable def b0:Code:=subF [] Tryz.f152
noncomputable def K0 (k:Nat):Kt R:=kTop (cs k) Tryz.f152 dec
noncomputable def f (k:Nat):Y:=fun v=>held (runFn cs k Tryz.f152 (sh.args v) (sh.slots v) dec)
noncomputable def F:Y:=lm f
def d:Y:=fun _ =>
some (0,0,true)
theorem d_cn:∀ v:A,Cn E (d v) fun i=>d v:=fun _=>.some
theorem f_b (k:Nat):∀ v:A,f k v = d v:=fun _=>(held_eq _).trans (by kernel_rfl)
theorem F_of (v:A) {r:R} (h:d v = some r):F v = some r:=join_of (fun L=>f_b (L 0) v) (d_cn v) h
noncomputable def spec (k:Nat):List AV→List Slot→Option Ans:=specS sh os (f k)
theorem spec_ok (k:Nat):SpecOk Tryz.prog 152 (spec k):=specS_ok cs_ok Tryz.func152 rfl rfl (fun _ _=>held_eq _) k
end g47
noncomputable def tg47:=tg46.cons 152 g47.spec g47.spec_ok
namespace g48 -- bits_Len64
abbrev R:Type:=Int
abbrev A:Type:=Int
abbrev Y:=A→Option R
def lv:List (Nat × List Nat):=[(2000000,[2]),(1000004,[0,2]),(1000007,[0,2]),(1000010,[0,2])]
noncomputable def cs:Nat→Ctx:=ctxOf tis modes tg47.1 lv
theorem cs_ok (n:Nat):CtxOk Tryz.prog (cs n):=ctxOf_ok rfl tis_ok tg47.2 n
def sh:AS:=⟨[(.c (.int .u64))],[]⟩
def os:OS:=⟨.c (.int .i64),[]⟩
def enc (r:R):Out:=os.enc r
def dec:Out→Option R:=os.dec
noncomputable def b0:Code:=subF [] Tryz.f224
noncomputable def K0 (k:Nat):Kt R:=kTop (cs k) Tryz.f224 dec
noncomputable def c1000004:Code:=sub [1,1] b0
noncomputable def J1000004 ( k:Nat):Kt R:=kAt (cs k) (loopN cs k) [1,1] b0 (K0 k)
noncomputable def c1000007:Code:=sub [1,1,1] b0
noncomputable def J1000007 ( k:Nat):Kt R:=kAt (cs k) (loopN cs k) [1,1,1] b0 (K0 k)
noncomputable def c1000010:Code:=sub [1,1,1,1] b0
noncomputable def J1000010 ( k:Nat):Kt R:=kAt (cs k) (loopN cs k) [1,1,1,1] b0 (K0 k)
abbrev T0:Type:=Int × Int
abbrev Y0:=T0→Option R
def s0:T0→St:=fun (v0,v1)=>⟨25,0,[(0,.c (.int .u64 v0)),(2,.c (.int .i64 v1))],[],[(256000000,.gone)]⟩
noncomputable def l0 ( k:Nat) (v:T0):Option R:=held (run (cs k) (loopN cs k) c1000004 (J1000004 k) (s0 v))
noncomputable def D0 (v:T0):Option R:=lim fun L=>l0 (L 0) v
theorem D0_cn (v:T0):Cn late (D0 v) fun L=>l0 (L 0) v:=of_lim
abbrev T1:Type:=Int × Int
abbrev Y1:=T1→Option R
def s1:T1→St:=fun (v0,v1)=>⟨25,0,[(0,.c (.int .u64 v0)),(2,.c (.int .i64 v1))],[],[(256000000,.gone)]⟩
noncomputable def l1 ( k:Nat) (v:T1):Option R:=held (run (cs k) (loopN cs k) c1000007 (J1000007 k) (s1 v))
noncomputable def D1 (v:T1):Option R:=lim fun L=>l1 (L 0) v
theorem D1_cn (v:T1):Cn late (D1 v) fun L=>l1 (L 0) v:=of_lim
abbrev T2:Type:=Int × Int
abbrev Y2:=T2→Option R
def s2:T2→St:=fun (v0,v1)=>⟨25,0,[(0,.c (.int .u64 v0)),(2,.c (.int .i64 v1))],[],[(256000000,.gone)]⟩
noncomputable def l2 ( k:Nat) (v:T2):Option R:=held (run (cs k) (loopN cs k) c1000010 (J1000010 k) (s2 v))
noncomputable def D2 (v:T2):Option R:=lim fun L=>l2 (L 0) v
theorem D2_cn (v:T2):Cn late (D2 v) fun L=>l2 (L 0) v:=of_lim
def d0 (p0:Y1):Y0:=fun (v0,v1) =>
br (decide (65536 ≤ v0)) (br (decide ((0:Int) ≤ 16)) (p0 (shr .u64 v0 16,wrap .i64 (v1 + 16))) none) (p0 (v0,v1))
theorem d0_cn (k0:Pr E T1 R):∀ v:T0,Cn E (d0 k0.p v) fun i=>d0 (k0.q i) v:=fun (v0,v1)=>(.br (.br (k0.h _) .none) (k0.h _))
theorem l0_b ( k:Nat):∀ v:T0,run (cs k) (loopN cs k) c1000004 (J1000004 k) (s0 v) = d0 (l1 k) v:=fun (v0,v1)=>by kernel_rfl
theorem D0_of (v:T0) {r:R} (h:d0 D1 v = some r):D0 v = some r:=join_of (fun L=>(held_eq _).trans (l0_b (L 0) v)) (d0_cn (.mk fun v=>(D1_cn v).re [0]) v) h
def d1 (p0:Y2):Y1:=fun (v0,v1) =>
br (decide (256 ≤ v0)) (br (decide ((0:Int) ≤ 8)) (p0 (shr .u64 v0 8,wrap .i64 (v1 + 8))) none) (p0 (v0,v1))
theorem d1_cn (k0:Pr E T2 R):∀ v:T1,Cn E (d1 k0.p v) fun i=>d1 (k0.q i) v:=fun (v0,v1)=>(.br (.br (k0.h _) .none) (k0.h _))
theorem l1_b ( k:Nat):∀ v:T1,run (cs k) (loopN cs k) c1000007 (J1000007 k) (s1 v) = d1 (l2 k) v:=fun (v0,v1)=>by kernel_rfl
theorem D1_of (v:T1) {r:R} (h:d1 D2 v = some r):D1 v = some r:=join_of (fun L=>(held_eq _).trans (l1_b (L 0) v)) (d1_cn (.mk fun v=>(D2_cn v).re [0]) v) h
def d2:Y2:=fun (v0,v1) =>
br (decide (0 ≤ wrap .u8 v0 ∧ wrap .u8 v0 < (↑bs0.size:Int))) (some (wrap .i64 (v1 + wrap .i64 (↑(bs0.data.getD (wrap .u8 v0).toNat 0).toNat:Int)))) none
theorem d2_cn:∀ v:T2,Cn E (d2 v) fun i=>d2 v:=fun (v0,v1)=>(.br .some .none)
theorem l2_b ( k:Nat):∀ v:T2,run (cs k) (loopN cs k) c1000010 (J1000010 k) (s2 v) = d2 v:=fun (v0,v1)=>by kernel_rfl
theorem D2_of (v:T2) {r:R} (h:d2 v = some r):D2 v = some r:=join_of (fun L=>(held_eq _).trans (l2_b (L 0) v)) (d2_cn v) h
noncomputable def f (k:Nat):Y:=fun v=>held (runFn cs k Tryz.f224 (sh.args v) (sh.slots v) dec)
noncomputable def F:Y:=lm f
def d (p0:Y0):Y:=fun v0 =>
br (decide (4294967296 ≤ v0)) (br (decide ((0:Int) ≤ 32)) (p0 (shr .u64 v0 32,32)) none) (p0 (v0,0))
theorem d_cn (k0:Pr E T0 R):∀ v:A,Cn E (d k0.p v) fun i=>d (k0.q i) v:=fun v0=>(.br (.br (k0.h _) .none) (k0.h _))
theorem f_b (k:Nat):∀ v:A,f k v = d (l0 k) v:=fun v0=>(held_eq _).trans (by kernel_rfl)
theorem F_of (v:A) {r:R} (h:d D0 v = some r):F v = some r:=join_of (fun L=>f_b (L 0) v) (d_cn (.mk fun v=>(D0_cn v).re [0]) v) h
noncomputable def spec (k:Nat):List AV→List Slot→Option Ans:=specS sh os (f k)
theorem spec_ok (k:Nat):SpecOk Tryz.prog 224 (spec k):=specS_ok cs_ok Tryz.func224 rfl rfl (fun _ _=>held_eq _) k
end g48
noncomputable def tg48:=tg47.cons 224 g48.spec g48.spec_ok
namespace g49 -- bits_LeadingZeros64
abbrev R:Type:=Int
abbrev A:Type:=Int
abbrev Y:=A→Option R
def lv:List (Nat × List Nat):=[(2000000,[2])]
noncomputable def cs:Nat→Ctx:=ctxOf tis modes tg48.1 lv
theorem cs_ok (n:Nat):CtxOk Tryz.prog (cs n):=ctxOf_ok rfl tis_ok tg48.2 n
def sh:AS:=⟨[(.c (.int .u64))],[]⟩
def os:OS:=⟨.c (.int .i64),[]⟩
def enc (r:R):Out:=os.enc r
def dec:Out→Option R:=os.dec
noncomputable def b0:Code:=subF [] Tryz.f223
noncomputable def K0 (k:Nat):Kt R:=kTop (cs k) Tryz.f223 dec
noncomputable def f (k:Nat):Y:=fun v=>held (runFn cs k Tryz.f223 (sh.args v) (sh.slots v) dec)
noncomputable def F:Y:=lm f
def d (p0:g48.Y):Y:=fun v0 =>
bnd (p0 v0) fun r=>some (wrap .i64 (64 - r))
theorem d_cn (k0:Pr E g48.A g48.R):∀ v:A,Cn E (d k0.p v) fun i=>d (k0.q i) v:=fun v0=>(.bnd (k0.h _) fun _=>.some)
theorem f_b (k:Nat):∀ v:A,f k v = d (g48.f k) v:=fun v0=>(held_eq _).trans (by kernel_rfl)
theorem F_of (v:A) {r:R} (h:d g48.F v = some r):F v = some r:=join_of (fun L=>f_b (L 0) v) (d_cn (lp g48.f 0) v) h
noncomputable def spec (k:Nat):List AV→List Slot→Option Ans:=specS sh os (f k)
theorem spec_ok (k:Nat):SpecOk Tryz.prog 223 (spec k):=specS_ok cs_ok Tryz.func223 rfl rfl (fun _ _=>held_eq _) k
end g49
noncomputable def tg49:=tg48.cons 223 g49.spec g49.spec_ok
namespace g50 -- bits_Div64
abbrev R:Type:=Int × Int
abbrev A:Type:=Int × Int × Int
abbrev Y:=A→Option R
def lv:List (Nat × List Nat):=[(2000000,[6,7]),(17,[2,8,9,10,11,13,14,15,16]),(1000021,[2,8,9,10,11,13,14,15]),(24,[2,8,9,10,14,15,16,17,18]),(1000028,[2,8,14,15,17,18])]
noncomputable def cs:Nat→Ctx:=ctxOf tis modes tg49.1 lv
theorem cs_ok (n:Nat):CtxOk Tryz.prog (cs n):=ctxOf_ok rfl tis_ok tg49.2 n
def sh:AS:=⟨[.c (.int .u64),.c (.int .u64),.c (.int .u64)],[]⟩
def os:OS:=⟨.tup [.c (.int .u64),.c (.int .u64)],[]⟩
def enc (r:R):Out:=os.enc r
def dec:Out→Option R:=os.dec
noncomputable def b0:Code:=subF [] Tryz.f213
noncomputable def K0 (k:Nat):Kt R:=kTop (cs k) Tryz.f213 dec
noncomputable def c1000021:Code:=sub [1,1,1,1,1,1,1,1,1,1,1,1,1,1,1] b0
noncomputable def J1000021 ( k:Nat):Kt R:=kAt (cs k) (loopN cs k) [1,1,1,1,1,1,1,1,1,1,1,1,1,1,1] b0 (K0 k)
noncomputable def b17:Code:=sub [1,1,1,1,1,1,1,1,1,1,1,1,1,1,0,0,0] b0
noncomputable def K17 ( k:Nat):Kt R:=kAt (cs k) (loopN cs k) [1,1,1,1,1,1,1,1,1,1,1,1,1,1,0,0] b0 (K0 k)
noncomputable def c1000028:Code:=sub [1,1,1,1,1,1,1,1,1,1,1,1,1,1,1,1,1,1,1] b0
noncomputable def J1000028 ( k:Nat):Kt R:=kAt (cs k) (loopN cs k) [1,1,1,1,1,1,1,1,1,1,1,1,1,1,1,1,1,1,1] b0 (K0 k)
noncomputable def b24:Code:=sub [1,1,1,1,1,1,1,1,1,1,1,1,1,1,1,1,1,1,0,0,0] b0
noncomputable def K24 ( k:Nat):Kt R:=kAt (cs k) (loopN cs k) [1,1,1,1,1,1,1,1,1,1,1,1,1,1,1,1,1,1,0,0] b0 (K0 k)
abbrev T0:Type:=Int × Int × Int × Int × Int × Int × Int × Int × Int
abbrev Y0:=T0→Option R
def s0:T0→St:=fun (v0,v1,v2,v3,v4,v5,v6,v7,v8)=>⟨135,0,[(2,.c (.int .u64 v0)),(8,.c (.int .u64 v1)),(9,.c (.int .u64 v2)),(10,.c (.int .u64 v3)),(11,.c (.int .u64 v4)),(13,.c (.int .u64 v5)),(14,.c (.int .u64 v6)),(15,.c (.int .u64 v7)),(16,.c (.int .u64 v8))],[],[(256000000,.gone)]⟩
noncomputable def l0 ( k n:Nat) (v:T0):Option R:=held (loopN cs n b17 (K17 k) (s0 v))
noncomputable def D0 (v:T0):Option R:=lim fun L=>l0 (L 0) (L 1) v
theorem D0_cn (v:T0):Cn late (D0 v) fun L=>l0 (L 0) (L 1) v:=of_lim
abbrev T1:Type:=Int × Int × Int × Int × Int × Int × Int × Int
abbrev Y1:=T1→Option R
def s1:T1→St:=fun (v0,v1,v2,v3,v4,v5,v6,v7)=>⟨135,0,[(2,.c (.int .u64 v0)),(8,.c (.int .u64 v1)),(9,.c (.int .u64 v2)),(10,.c (.int .u64 v3)),(11,.c (.int .u64 v4)),(13,.c (.int .u64 v5)),(14,.c (.int .u64 v6)),(15,.c (.int .u64 v7))],[],[(256000000,.gone)]⟩
noncomputable def l1 ( k:Nat) (v:T1):Option R:=held (run (cs k) (loopN cs k) c1000021 (J1000021 k) (s1 v))
noncomputable def D1 (v:T1):Option R:=lim fun L=>l1 (L 0) v
theorem D1_cn (v:T1):Cn late (D1 v) fun L=>l1 (L 0) v:=of_lim
abbrev T2:Type:=Int × Int × Int × Int × Int × Int × Int × Int × Int
abbrev Y2:=T2→Option R
def s2:T2→St:=fun (v0,v1,v2,v3,v4,v5,v6,v7,v8)=>⟨135,0,[(2,.c (.int .u64 v0)),(8,.c (.int .u64 v1)),(9,.c (.int .u64 v2)),(10,.c (.int .u64 v3)),(14,.c (.int .u64 v4)),(15,.c (.int .u64 v5)),(16,.c (.int .u64 v6)),(17,.c (.int .u64 v7)),(18,.c (.int .u64 v8))],[],[(256000000,.gone)]⟩
noncomputable def l2 ( k n:Nat) (v:T2):Option R:=held (loopN cs n b24 (K24 k) (s2 v))
noncomputable def D2 (v:T2):Option R:=lim fun L=>l2 (L 0) (L 1) v
theorem D2_cn (v:T2):Cn late (D2 v) fun L=>l2 (L 0) (L 1) v:=of_lim
abbrev T3:Type:=Int × Int × Int × Int × Int × Int
abbrev Y3:=T3→Option R
def s3:T3→St:=fun (v0,v1,v2,v3,v4,v5)=>⟨135,0,[(2,.c (.int .u64 v0)),(8,.c (.int .u64 v1)),(14,.c (.int .u64 v2)),(15,.c (.int .u64 v3)),(17,.c (.int .u64 v4)),(18,.c (.int .u64 v5))],[],[(256000000,.gone)]⟩
noncomputable def l3 ( k:Nat) (v:T3):Option R:=held (run (cs k) (loopN cs k) c1000028 (J1000028 k) (s3 v))
noncomputable def D3 (v:T3):Option R:=lim fun L=>l3 (L 0) v
theorem D3_cn (v:T3):Cn late (D3 v) fun L=>l3 (L 0) v:=of_lim
def d0 (p0:Y1) (p1:Y0):Y0:=fun (v0,v1,v2,v3,v4,v5,v6,v7,v8) =>
br (decide (4294967296 ≤ v7) || decide (wrap .u64 (wrap .u64 (4294967296 * v8) + v5) < wrap .u64 (v7 * v3))) (br (decide (4294967296 ≤ wrap .u64 (v8 + v2))) (p0 (v0,v1,v2,v3,v4,v5,v6,wrap .u64 (v7 - 1))) (p1 (v0,v1,v2,v3,v4,v5,v6,wrap .u64 (v7 - 1),wrap .u64 (v8 + v2)))) (p0 (v0,v1,v2,v3,v4,v5,v6,v7))
theorem d0_cn (k0:Pr E T1 R) (k1:Pr E T0 R):∀ v:T0,Cn E (d0 k0.p k1.p v) fun i=>d0 (k0.q i) (k1.q i) v:=fun (v0,v1,v2,v3,v4,v5,v6,v7,v8)=>(.br (.br (k0.h _) (k1.h _)) (k0.h _))
theorem l0_b ( k m1:Nat):∀ v:T0,run (cs m1) (loopN cs m1) b17 (kLoop cs m1 b17 (K17 k)) (s0 v) = d0 (l1 k) (l0 k m1) v:=fun (v0,v1,v2,v3,v4,v5,v6,v7,v8)=>by kernel_rfl
theorem D0_of (v:T0) {r:R} (h:d0 D1 D0 v = some r):D0 v = some r:=loop_of 1 (fun L n hn=>by show l0 (L 0) (L 1) v = _; rw [hn]; exact (held_eq _).trans ((loopN_succ _ _ _ _ _).trans (l0_b (L 0) n v))) (d0_cn (.mk fun v=>(D1_cn v).re [0]) (.mk fun v=>(D0_cn v).re [0,1]) v) h
def d1 (p0:Y2):Y1:=fun (v0,v1,v2,v3,v4,v5,v6,v7) =>
br (!decide (v2 = 0)) (p0 (v0,v1,v2,v3,v6,v7,wrap .u64 (wrap .u64 (wrap .u64 (wrap .u64 (v4 * 4294967296) + v5) - wrap .u64 (v7 * v0)) - wrap .u64 (wrap .u64 ((wrap .u64 (wrap .u64 (wrap .u64 (v4 * 4294967296) + v5) - wrap .u64 (v7 * v0))).tdiv v2) * v2)),wrap .u64 (wrap .u64 (wrap .u64 (v4 * 4294967296) + v5) - wrap .u64 (v7 * v0)),wrap .u64 ((wrap .u64 (wrap .u64 (wrap .u64 (v4 * 4294967296) + v5) - wrap .u64 (v7 * v0))).tdiv v2))) none
theorem d1_cn (k0:Pr E T2 R):∀ v:T1,Cn E (d1 k0.p v) fun i=>d1 (k0.q i) v:=fun (v0,v1,v2,v3,v4,v5,v6,v7)=>(.br (k0.h _) .none)
theorem l1_b ( k:Nat):∀ v:T1,run (cs k) (loopN cs k) c1000021 (J1000021 k) (s1 v) = d1 (l2 k k) v:=fun (v0,v1,v2,v3,v4,v5,v6,v7)=>by kernel_rfl
theorem D1_of (v:T1) {r:R} (h:d1 D2 v = some r):D1 v = some r:=join_of (fun L=>(held_eq _).trans (l1_b (L 0) v)) (d1_cn (.mk fun v=>(D2_cn v).re [0,0]) v) h
def d2 (p0:Y3) (p1:Y2):Y2:=fun (v0,v1,v2,v3,v4,v5,v6,v7,v8) =>
br (decide (4294967296 ≤ v8) || decide (wrap .u64 (wrap .u64 (4294967296 * v6) + v4) < wrap .u64 (v8 * v3))) (br (decide (4294967296 ≤ wrap .u64 (v6 + v2))) (p0 (v0,v1,v4,v5,v7,wrap .u64 (v8 - 1))) (p1 (v0,v1,v2,v3,v4,v5,wrap .u64 (v6 + v2),v7,wrap .u64 (v8 - 1)))) (p0 (v0,v1,v4,v5,v7,v8))
theorem d2_cn (k0:Pr E T3 R) (k1:Pr E T2 R):∀ v:T2,Cn E (d2 k0.p k1.p v) fun i=>d2 (k0.q i) (k1.q i) v:=fun (v0,v1,v2,v3,v4,v5,v6,v7,v8)=>(.br (.br (k0.h _) (k1.h _)) (k0.h _))
theorem l2_b ( k m1:Nat):∀ v:T2,run (cs m1) (loopN cs m1) b24 (kLoop cs m1 b24 (K24 k)) (s2 v) = d2 (l3 k) (l2 k m1) v:=fun (v0,v1,v2,v3,v4,v5,v6,v7,v8)=>by kernel_rfl
theorem D2_of (v:T2) {r:R} (h:d2 D3 D2 v = some r):D2 v = some r:=loop_of 1 (fun L n hn=>by show l2 (L 0) (L 1) v = _; rw [hn]; exact (held_eq _).trans ((loopN_succ _ _ _ _ _).trans (l2_b (L 0) n v))) (d2_cn (.mk fun v=>(D3_cn v).re [0]) (.mk fun v=>(D2_cn v).re [0,1]) v) h
def d3:Y3:=fun (v0,v1,v2,v3,v4,v5) =>
br (decide (0 ≤ v1)) (some (wrap .u64 (wrap .u64 (v3 * 4294967296) + v5),shr .u64 (wrap .u64 (wrap .u64 (wrap .u64 (v4 * 4294967296) + v2) - wrap .u64 (v5 * v0))) v1)) none
theorem d3_cn:∀ v:T3,Cn E (d3 v) fun i=>d3 v:=fun (v0,v1,v2,v3,v4,v5)=>(.br .some .none)
theorem l3_b ( k:Nat):∀ v:T3,run (cs k) (loopN cs k) c1000028 (J1000028 k) (s3 v) = d3 v:=fun (v0,v1,v2,v3,v4,v5)=>by kernel_rfl
theorem D3_of (v:T3) {r:R} (h:d3 v = some r):D3 v = some r:=join_of (fun L=>(held_eq _).trans (l3_b (L 0) v)) (d3_cn v) h
noncomputable def f (k:Nat):Y:=fun v=>held (runFn cs k Tryz.f213 (sh.args v) (sh.slots v) dec)
noncomputable def F:Y:=lm f
noncomputable def d (p0:g49.Y) (p1:Y0):Y:=fun (v0,v1,v2) =>
br (decide (v2 = 0)) none (br (decide (v2 ≤ v0)) none (br (decide (v0 = 0)) (br (!decide (v2 = 0)) (br (!decide (v2 = 0)) (some (wrap .u64 (v1.tdiv v2),v1.tmod v2)) none) none) (bnd (p0 v2) fun r=>br (decide (0 ≤ wrap .u64 r)) (br (decide ((0:Int) ≤ 32)) (br (decide (0 ≤ wrap .u64 r)) (br (decide (0 ≤ wrap .u64 (64 - wrap .u64 r))) (br (decide (0 ≤ wrap .u64 r)) (br (decide ((0:Int) ≤ 32)) (br (!decide (shr .u64 (shl .u64 v2 (wrap .u64 r)) 32 = 0)) (p1 (shl .u64 v2 (wrap .u64 r),wrap .u64 r,shr .u64 (shl .u64 v2 (wrap .u64 r)) 32,bAnd .u64 (shl .u64 v2 (wrap .u64 r)) 4294967295,bOr .u64 (shl .u64 v0 (wrap .u64 r)) (shr .u64 v1 (wrap .u64 (64 - wrap .u64 r))),shr .u64 (shl .u64 v1 (wrap .u64 r)) 32,bAnd .u64 (shl .u64 v1 (wrap .u64 r)) 4294967295,wrap .u64 ((bOr .u64 (shl .u64 v0 (wrap .u64 r)) (shr .u64 v1 (wrap .u64 (64 - wrap .u64 r)))).tdiv (shr .u64 (shl .u64 v2 (wrap .u64 r)) 32)),wrap .u64 (bOr .u64 (shl .u64 v0 (wrap .u64 r)) (shr .u64 v1 (wrap .u64 (64 - wrap .u64 r))) - wrap .u64 (wrap .u64 ((bOr .u64 (shl .u64 v0 (wrap .u64 r)) (shr .u64 v1 (wrap .u64 (64 - wrap .u64 r)))).tdiv (shr .u64 (shl .u64 v2 (wrap .u64 r)) 32)) * shr .u64 (shl .u64 v2 (wrap .u64 r)) 32)))) none) none) none) none) none) none) none)))
theorem d_cn (k0:Pr E g49.A g49.R) (k1:Pr E T0 R):∀ v:A,Cn E (d k0.p k1.p v) fun i=>d (k0.q i) (k1.q i) v:=fun (v0,v1,v2)=>(.br .none (.br .none (.br (.br (.br .some .none) .none) (.bnd (k0.h _) fun _=>(.br (.br (.br (.br (.br (.br (.br (k1.h _) .none) .none) .none) .none) .none) .none) .none)))))
theorem f_b (k:Nat):∀ v:A,f k v = d (g49.f k) (l0 k k) v:=fun (v0,v1,v2)=>(held_eq _).trans (by kernel_rfl)
theorem F_of (v:A) {r:R} (h:d g49.F D0 v = some r):F v = some r:=join_of (fun L=>f_b (L 0) v) (d_cn (lp g49.f 0) (.mk fun v=>(D0_cn v).re [0,0]) v) h
noncomputable def spec (k:Nat):List AV→List Slot→Option Ans:=specS sh os (f k)
theorem spec_ok (k:Nat):SpecOk Tryz.prog 213 (spec k):=specS_ok cs_ok Tryz.func213 rfl rfl (fun _ _=>held_eq _) k
end g50
noncomputable def tg50:=tg49.cons 213 g50.spec g50.spec_ok
namespace g51 -- num_Wide_Div
abbrev R:Type:=Int × Int
abbrev A:Type:=Int × Int × Int
abbrev Y:=A→Option R
def lv:List (Nat × List Nat):=[(2000000,[4,5]),(1000006,[1,2,6]),(1000014,[2,7,8,9])]
noncomputable def cs:Nat→Ctx:=ctxOf tis modes tg50.1 lv
theorem cs_ok (n:Nat):CtxOk Tryz.prog (cs n):=ctxOf_ok rfl tis_ok tg50.2 n
def sh:AS:=⟨[.agg [.int .i64,.int .u64],.c (.int .i64)],[]⟩
def os:OS:=⟨.tup [.c (.int .i64),.c (.int .i64)],[]⟩
def enc (r:R):Out:=os.enc r
def dec:Out→Option R:=os.dec
noncomputable def b0:Code:=subF [] Tryz.f187
noncomputable def K0 (k:Nat):Kt R:=kTop (cs k) Tryz.f187 dec
noncomputable def c1000006:Code:=sub [1,1,1,1] b0
noncomputable def J1000006 ( k:Nat):Kt R:=kAt (cs k) (loopN cs k) [1,1,1,1] b0 (K0 k)
noncomputable def c1000014:Code:=sub [1,1,1,1,1,1,1,1] b0
noncomputable def J1000014 ( k:Nat):Kt R:=kAt (cs k) (loopN cs k) [1,1,1,1,1,1,1,1] b0 (K0 k)
abbrev T0:Type:=Int × Int × Int × Int × Int
abbrev Y0:=T0→Option R
def s0:T0→St:=fun (v0,v1,v2,v3,v4)=>⟨61,0,[(1,.c (.int .i64 v0)),(2,.c (.ptr 64000000 0)),(6,.c (.ptr 64000001 0))],[],[(256000000,.gone),(64000000,.box [.int .i64 v1,.int .u64 v2]),(64000001,.box [.int .i64 v3,.int .u64 v4])]⟩
noncomputable def l0 ( k:Nat) (v:T0):Option R:=held (run (cs k) (loopN cs k) c1000006 (J1000006 k) (s0 v))
noncomputable def D0 (v:T0):Option R:=lim fun L=>l0 (L 0) v
theorem D0_cn (v:T0):Cn late (D0 v) fun L=>l0 (L 0) v:=of_lim
abbrev T1:Type:=Int × Int × Int × Int × Int
abbrev Y1:=T1→Option R
def s1:T1→St:=fun (v0,v1,v2,v3,v4)=>⟨61,0,[(2,.c (.ptr 64000000 0)),(7,.c (.int .u64 v0)),(8,.c (.int .u64 v1)),(9,.c (.int .u64 v2))],[],[(256000000,.gone),(64000000,.box [.int .i64 v3,.int .u64 v4])]⟩
noncomputable def l1 ( k:Nat) (v:T1):Option R:=held (run (cs k) (loopN cs k) c1000014 (J1000014 k) (s1 v))
noncomputable def D1 (v:T1):Option R:=lim fun L=>l1 (L 0) v
theorem D1_cn (v:T1):Cn late (D1 v) fun L=>l1 (L 0) v:=of_lim
def d0 (p0:g50.Y) (p1:Y1):Y0:=fun (v0,v1,v2,v3,v4) =>
br (decide (wrap .u64 v0 ≤ wrap .u64 v3)) (some (0,2)) (bnd (p0 (wrap .u64 v3,v4,wrap .u64 v0)) fun r=>br (decide (v1 < 0)) (br (decide (0 < r.2)) (p1 (r.1,r.2,wrap .u64 (9223372036854775808 - 1),v1,v2)) (p1 (r.1,r.2,9223372036854775808,v1,v2))) (p1 (r.1,r.2,9223372036854775807,v1,v2)))
theorem d0_cn (k0:Pr E g50.A g50.R) (k1:Pr E T1 R):∀ v:T0,Cn E (d0 k0.p k1.p v) fun i=>d0 (k0.q i) (k1.q i) v:=fun (v0,v1,v2,v3,v4)=>(.br .some (.bnd (k0.h _) fun _=>(.br (.br (k1.h _) (k1.h _)) (k1.h _))))
theorem l0_b ( k:Nat):∀ v:T0,run (cs k) (loopN cs k) c1000006 (J1000006 k) (s0 v) = d0 (g50.f k) (l1 k) v:=fun (v0,v1,v2,v3,v4)=>by kernel_rfl
theorem D0_of (v:T0) {r:R} (h:d0 g50.F D1 v = some r):D0 v = some r:=join_of (fun L=>(held_eq _).trans (l0_b (L 0) v)) (d0_cn (lp g50.f 0) (.mk fun v=>(D1_cn v).re [0]) v) h
def d1:Y1:=fun (v0,v1,v2,v3,v4) =>
br (decide (v2 < v0)) (some (0,2)) (br (decide (0 ≤ v3)) (some (wrap .i64 v0,0)) (br (decide (0 < v1)) (some (wrap .i64 (wrap .i64 (wrap .u64 (0 - v0)) - 1),0)) (some (wrap .i64 (wrap .u64 (0 - v0)),0))))
theorem d1_cn:∀ v:T1,Cn E (d1 v) fun i=>d1 v:=fun (v0,v1,v2,v3,v4)=>(.br .some (.br .some (.br .some .some)))
theorem l1_b ( k:Nat):∀ v:T1,run (cs k) (loopN cs k) c1000014 (J1000014 k) (s1 v) = d1 v:=fun (v0,v1,v2,v3,v4)=>by kernel_rfl
theorem D1_of (v:T1) {r:R} (h:d1 v = some r):D1 v = some r:=join_of (fun L=>(held_eq _).trans (l1_b (L 0) v)) (d1_cn v) h
noncomputable def f (k:Nat):Y:=fun v=>held (runFn cs k Tryz.f187 (sh.args v) (sh.slots v) dec)
noncomputable def F:Y:=lm f
def d (p0:g13.Y) (p1:Y0):Y:=fun (v0,v1,v2) =>
br (decide (v2 < 1)) (some (0,1)) (br (decide (v0 < 0)) (bnd (p0 (v0,v1)) fun r=>p1 (v2,v0,v1,r.1,r.2)) (p1 (v2,v0,v1,v0,v1)))
theorem d_cn (k0:Pr E g13.A g13.R) (k1:Pr E T0 R):∀ v:A,Cn E (d k0.p k1.p v) fun i=>d (k0.q i) (k1.q i) v:=fun (v0,v1,v2)=>(.br .some (.br (.bnd (k0.h _) fun _=>(k1.h _)) (k1.h _)))
theorem f_b (k:Nat):∀ v:A,f k v = d (g13.f k) (l0 k) v:=fun (v0,v1,v2)=>(held_eq _).trans (by kernel_rfl)
theorem F_of (v:A) {r:R} (h:d g13.F D0 v = some r):F v = some r:=join_of (fun L=>f_b (L 0) v) (d_cn (lp g13.f 0) (.mk fun v=>(D0_cn v).re [0]) v) h
noncomputable def spec (k:Nat):List AV→List Slot→Option Ans:=specS sh os (f k)
theorem spec_ok (k:Nat):SpecOk Tryz.prog 187 (spec k):=specS_ok cs_ok Tryz.func187 rfl rfl (fun _ _=>held_eq _) k
end g51
noncomputable def tg51:=tg50.cons 187 g51.spec g51.spec_ok
namespace g52 -- num_MulDiv
abbrev R:Type:=Int × Int
abbrev A:Type:=Int × Int × Int
abbrev Y:=A→Option R
def lv:List (Nat × List Nat):=[(2000000,[6,7])]
noncomputable def cs:Nat→Ctx:=ctxOf tis modes tg51.1 lv
theorem cs_ok (n:Nat):CtxOk Tryz.prog (cs n):=ctxOf_ok rfl tis_ok tg51.2 n
def sh:AS:=⟨[.c (.int .i64),.c (.int .i64),.c (.int .i64)],[]⟩
def os:OS:=⟨.tup [.c (.int .i64),.c (.int .i64)],[]⟩
def enc (r:R):Out:=os.enc r
def dec:Out→Option R:=os.dec
noncomputable def b0:Code:=subF [] Tryz.f153
noncomputable def K0 (k:Nat):Kt R:=kTop (cs k) Tryz.f153 dec
noncomputable def f (k:Nat):Y:=fun v=>held (runFn cs k Tryz.f153 (sh.args v) (sh.slots v) dec)
noncomputable def F:Y:=lm f
def d (p0:g14.Y) (p1:g51.Y):Y:=fun (v0,v1,v2) =>
bnd (p0 (v0,v1)) fun r=>bnd (p1 (r.1,r.2,v2)) fun r=>some (r.1,r.2)
theorem d_cn (k0:Pr E g14.A g14.R) (k1:Pr E g51.A g51.R):∀ v:A,Cn E (d k0.p k1.p v) fun i=>d (k0.q i) (k1.q i) v:=fun (v0,v1,v2)=>(.bnd (k0.h _) fun _=>(.bnd (k1.h _) fun _=>.some))
theorem f_b (k:Nat):∀ v:A,f k v = d (g14.f k) (g51.f k) v:=fun (v0,v1,v2)=>(held_eq _).trans (by kernel_rfl)
theorem F_of (v:A) {r:R} (h:d g14.F g51.F v = some r):F v = some r:=join_of (fun L=>f_b (L 0) v) (d_cn (lp g14.f 0) (lp g51.f 0) v) h
noncomputable def spec (k:Nat):List AV→List Slot→Option Ans:=specS sh os (f k)
theorem spec_ok (k:Nat):SpecOk Tryz.prog 153 (spec k):=specS_ok cs_ok Tryz.func153 rfl rfl (fun _ _=>held_eq _) k
end g52
noncomputable def tg52:=tg51.cons 153 g52.spec g52.spec_ok
namespace g53 -- num_Wide_Mod
abbrev R:Type:=Int
abbrev A:Type:=Int × Int × Int
abbrev Y:=A→Option R
def lv:List (Nat × List Nat):=[(2000000,[4]),(1000006,[1,2,5]),(1000009,[7])]
noncomputable def cs:Nat→Ctx:=ctxOf tis modes tg52.1 lv
theorem cs_ok (n:Nat):CtxOk Tryz.prog (cs n):=ctxOf_ok rfl tis_ok tg52.2 n
def sh:AS:=⟨[.agg [.int .i64,.int .u64],.c (.int .i64)],[]⟩
def os:OS:=⟨.c (.int .i64),[]⟩
def enc (r:R):Out:=os.enc r
def dec:Out→Option R:=os.dec
noncomputable def b0:Code:=subF [] Tryz.f188
noncomputable def K0 (k:Nat):Kt R:=kTop (cs k) Tryz.f188 dec
noncomputable def c1000006:Code:=sub [1,1,1,1] b0
noncomputable def J1000006 ( k:Nat):Kt R:=kAt (cs k) (loopN cs k) [1,1,1,1] b0 (K0 k)
noncomputable def c1000009:Code:=sub [1,1,1,1,1,1] b0
noncomputable def J1000009 ( k:Nat):Kt R:=kAt (cs k) (loopN cs k) [1,1,1,1,1,1] b0 (K0 k)
abbrev T0:Type:=Int × Int × Int × Int × Int
abbrev Y0:=T0→Option R
def s0:T0→St:=fun (v0,v1,v2,v3,v4)=>⟨43,0,[(1,.c (.int .i64 v0)),(2,.c (.ptr 64000000 0)),(5,.c (.ptr 64000001 0))],[],[(256000000,.gone),(64000000,.box [.int .i64 v1,.int .u64 v2]),(64000001,.box [.int .i64 v3,.int .u64 v4])]⟩
noncomputable def l0 ( k:Nat) (v:T0):Option R:=held (run (cs k) (loopN cs k) c1000006 (J1000006 k) (s0 v))
noncomputable def D0 (v:T0):Option R:=lim fun L=>l0 (L 0) v
theorem D0_cn (v:T0):Cn late (D0 v) fun L=>l0 (L 0) v:=of_lim
abbrev T1:Type:=Int
abbrev Y1:=T1→Option R
def s1:T1→St:=fun v0=>⟨43,0,[(7,.c (.int .u64 v0))],[],[(256000000,.gone)]⟩
noncomputable def l1 ( k:Nat) (v:T1):Option R:=held (run (cs k) (loopN cs k) c1000009 (J1000009 k) (s1 v))
noncomputable def D1 (v:T1):Option R:=lim fun L=>l1 (L 0) v
theorem D1_cn (v:T1):Cn late (D1 v) fun L=>l1 (L 0) v:=of_lim
def d0 (p0:g50.Y) (p1:Y1):Y0:=fun (v0,v1,v2,v3,v4) =>
br (!decide (wrap .u64 v0 = 0)) (bnd (p0 ((wrap .u64 v3).tmod (wrap .u64 v0),v4,wrap .u64 v0)) fun r=>br (decide (v1 < 0) && decide (0 < r.2)) (p1 (wrap .u64 (wrap .u64 v0 - r.2))) (p1 r.2)) none
theorem d0_cn (k0:Pr E g50.A g50.R) (k1:Pr E T1 R):∀ v:T0,Cn E (d0 k0.p k1.p v) fun i=>d0 (k0.q i) (k1.q i) v:=fun (v0,v1,v2,v3,v4)=>(.br (.bnd (k0.h _) fun _=>(.br (k1.h _) (k1.h _))) .none)
theorem l0_b ( k:Nat):∀ v:T0,run (cs k) (loopN cs k) c1000006 (J1000006 k) (s0 v) = d0 (g50.f k) (l1 k) v:=fun (v0,v1,v2,v3,v4)=>by kernel_rfl
theorem D0_of (v:T0) {r:R} (h:d0 g50.F D1 v = some r):D0 v = some r:=join_of (fun L=>(held_eq _).trans (l0_b (L 0) v)) (d0_cn (lp g50.f 0) (.mk fun v=>(D1_cn v).re [0]) v) h
def d1:Y1:=fun v0 =>
some (wrap .i64 v0)
theorem d1_cn:∀ v:T1,Cn E (d1 v) fun i=>d1 v:=fun v0=>.some
theorem l1_b ( k:Nat):∀ v:T1,run (cs k) (loopN cs k) c1000009 (J1000009 k) (s1 v) = d1 v:=fun v0=>by kernel_rfl
theorem D1_of (v:T1) {r:R} (h:d1 v = some r):D1 v = some r:=join_of (fun L=>(held_eq _).trans (l1_b (L 0) v)) (d1_cn v) h
noncomputable def f (k:Nat):Y:=fun v=>held (runFn cs k Tryz.f188 (sh.args v) (sh.slots v) dec)
noncomputable def F:Y:=lm f
def d (p0:g13.Y) (p1:Y0):Y:=fun (v0,v1,v2) =>
br (decide (v2 < 1)) (some 0) (br (decide (v0 < 0)) (bnd (p0 (v0,v1)) fun r=>p1 (v2,v0,v1,r.1,r.2)) (p1 (v2,v0,v1,v0,v1)))
theorem d_cn (k0:Pr E g13.A g13.R) (k1:Pr E T0 R):∀ v:A,Cn E (d k0.p k1.p v) fun i=>d (k0.q i) (k1.q i) v:=fun (v0,v1,v2)=>(.br .some (.br (.bnd (k0.h _) fun _=>(k1.h _)) (k1.h _)))
theorem f_b (k:Nat):∀ v:A,f k v = d (g13.f k) (l0 k) v:=fun (v0,v1,v2)=>(held_eq _).trans (by kernel_rfl)
theorem F_of (v:A) {r:R} (h:d g13.F D0 v = some r):F v = some r:=join_of (fun L=>f_b (L 0) v) (d_cn (lp g13.f 0) (.mk fun v=>(D0_cn v).re [0]) v) h
noncomputable def spec (k:Nat):List AV→List Slot→Option Ans:=specS sh os (f k)
theorem spec_ok (k:Nat):SpecOk Tryz.prog 188 (spec k):=specS_ok cs_ok Tryz.func188 rfl rfl (fun _ _=>held_eq _) k
end g53
noncomputable def tg53:=tg52.cons 188 g53.spec g53.spec_ok
namespace g54 -- num_MulDivUp
abbrev R:Type:=Int × Int
abbrev A:Type:=Int × Int × Int
abbrev Y:=A→Option R
def lv:List (Nat × List Nat):=[(2000000,[6,7])]
noncomputable def cs:Nat→Ctx:=ctxOf tis modes tg53.1 lv
theorem cs_ok (n:Nat):CtxOk Tryz.prog (cs n):=ctxOf_ok rfl tis_ok tg53.2 n
def sh:AS:=⟨[.c (.int .i64),.c (.int .i64),.c (.int .i64)],[]⟩
def os:OS:=⟨.tup [.c (.int .i64),.c (.int .i64)],[]⟩
def enc (r:R):Out:=os.enc r
def dec:Out→Option R:=os.dec
noncomputable def b0:Code:=subF [] Tryz.f154
noncomputable def K0 (k:Nat):Kt R:=kTop (cs k) Tryz.f154 dec
noncomputable def f (k:Nat):Y:=fun v=>held (runFn cs k Tryz.f154 (sh.args v) (sh.slots v) dec)
noncomputable def F:Y:=lm f
def d (p0:g14.Y) (p1:g51.Y) (p2:g53.Y):Y:=fun (v0,v1,v2) =>
bnd (p0 (v0,v1)) fun r=>bnd (p1 (r.1,r.2,v2)) fun r_1=>br ((!decide (r_1.2 = 0)) == false) (bnd (p2 (r.1,r.2,v2)) fun r=>br (decide (r = 0)) (some (r_1.1,r_1.2)) (br (decide (r_1.1 = 9223372036854775807)) (some (0,2)) (some (wrap .i64 (r_1.1 + 1),0)))) (some (r_1.1,r_1.2))
theorem d_cn (k0:Pr E g14.A g14.R) (k1:Pr E g51.A g51.R) (k2:Pr E g53.A g53.R):∀ v:A,Cn E (d k0.p k1.p k2.p v) fun i=>d (k0.q i) (k1.q i) (k2.q i) v:=fun (v0,v1,v2)=>(.bnd (k0.h _) fun _=>(.bnd (k1.h _) fun _=>(.br (.bnd (k2.h _) fun _=>(.br .some (.br .some .some))) .some)))
theorem f_b (k:Nat):∀ v:A,f k v = d (g14.f k) (g51.f k) (g53.f k) v:=fun (v0,v1,v2)=>(held_eq _).trans (by kernel_rfl)
theorem F_of (v:A) {r:R} (h:d g14.F g51.F g53.F v = some r):F v = some r:=join_of (fun L=>f_b (L 0) v) (d_cn (lp g14.f 0) (lp g51.f 0) (lp g53.f 0) v) h
noncomputable def spec (k:Nat):List AV→List Slot→Option Ans:=specS sh os (f k)
theorem spec_ok (k:Nat):SpecOk Tryz.prog 154 (spec k):=specS_ok cs_ok Tryz.func154 rfl rfl (fun _ _=>held_eq _) k
end g54
noncomputable def tg54:=tg53.cons 154 g54.spec g54.spec_ok
namespace g55 -- bound_Check_Arc
abbrev R:Type:=Int
abbrev A:Type:=Int × Int × Bool
abbrev Y:=A→Option R
def lv:List (Nat × List Nat):=[(2000000,[2])]
noncomputable def cs:Nat→Ctx:=ctxOf tis modes tg54.1 lv
theorem cs_ok (n:Nat):CtxOk Tryz.prog (cs n):=ctxOf_ok rfl tis_ok tg54.2 n
def sh:AS:=⟨[(.agg [.int .i64,.int .i64,.bool])],[]⟩
def os:OS:=⟨.c (.int .i64),[]⟩
def enc (r:R):Out:=os.enc r
def dec:Out→Option R:=os.dec
noncomputable def b0:Code:=subF [] Tryz.f214
noncomputable def K0 (k:Nat):Kt R:=kTop (cs k) Tryz.f214 dec
noncomputable def f (k:Nat):Y:=fun v=>held (runFn cs k Tryz.f214 (sh.args v) (sh.slots v) dec)
noncomputable def F:Y:=lm f
def d:Y:=fun (v0,v1,v2) =>
br (v2 && (!decide (v0 = 0) || !decide (v1 = 0))) (some 3) (br (decide (min v0 v1 < -1152921504606846976) || decide (1152921504606846976 < max v0 v1)) (some 4) (br (decide (v1 < v0)) (some 11) (some 0)))
theorem d_cn:∀ v:A,Cn E (d v) fun i=>d v:=fun (v0,v1,v2)=>(.br .some (.br .some (.br .some .some)))
theorem f_b (k:Nat):∀ v:A,f k v = d v:=fun (v0,v1,v2)=>(held_eq _).trans (by kernel_rfl)
theorem F_of (v:A) {r:R} (h:d v = some r):F v = some r:=join_of (fun L=>f_b (L 0) v) (d_cn v) h
noncomputable def spec (k:Nat):List AV→List Slot→Option Ans:=specS sh os (f k)
theorem spec_ok (k:Nat):SpecOk Tryz.prog 214 (spec k):=specS_ok cs_ok Tryz.func214 rfl rfl (fun _ _=>held_eq _) k
end g55
noncomputable def tg55:=tg54.cons 214 g55.spec g55.spec_ok
namespace g56 -- bound_Norm_Arc
abbrev R:Type:=Int × Int × Bool
abbrev A:Type:=Int × Int × Bool
abbrev Y:=A→Option R
def lv:List (Nat × List Nat):=[(2000000,[2])]
noncomputable def cs:Nat→Ctx:=ctxOf tis modes tg55.1 lv
theorem cs_ok (n:Nat):CtxOk Tryz.prog (cs n):=ctxOf_ok rfl tis_ok tg55.2 n
def sh:AS:=⟨[(.agg [.int .i64,.int .i64,.bool])],[]⟩
def os:OS:=⟨.agg [.int .i64,.int .i64,.bool],[]⟩
def enc (r:R):Out:=os.enc r
def dec:Out→Option R:=os.dec
noncomputable def b0:Code:=subF [] Tryz.f189
noncomputable def K0 (k:Nat):Kt R:=kTop (cs k) Tryz.f189 dec
noncomputable def f (k:Nat):Y:=fun v=>held (runFn cs k Tryz.f189 (sh.args v) (sh.slots v) dec)
noncomputable def F:Y:=lm f
def d (p0:g55.Y) (p1:g47.Y):Y:=fun (v0,v1,v2) =>
bnd (p0 (v0,v1,v2)) fun r=>br (!decide (r = 0)) (bnd (p1 ()) fun r=>some (r.1,r.2.1,r.2.2)) (some (v0,v1,v2))
theorem d_cn (k0:Pr E g55.A g55.R) (k1:Pr E g47.A g47.R):∀ v:A,Cn E (d k0.p k1.p v) fun i=>d (k0.q i) (k1.q i) v:=fun (v0,v1,v2)=>(.bnd (k0.h _) fun _=>(.br (.bnd (k1.h _) fun _=>.some) .some))
theorem f_b (k:Nat):∀ v:A,f k v = d (g55.f k) (g47.f k) v:=fun (v0,v1,v2)=>(held_eq _).trans (by kernel_rfl)
theorem F_of (v:A) {r:R} (h:d g55.F g47.F v = some r):F v = some r:=join_of (fun L=>f_b (L 0) v) (d_cn (lp g55.f 0) (lp g47.f 0) v) h
noncomputable def spec (k:Nat):List AV→List Slot→Option Ans:=specS sh os (f k)
theorem spec_ok (k:Nat):SpecOk Tryz.prog 189 (spec k):=specS_ok cs_ok Tryz.func189 rfl rfl (fun _ _=>held_eq _) k
end g56
noncomputable def tg56:=tg55.cons 189 g56.spec g56.spec_ok
namespace g57 -- bound_Of_Arc
abbrev R:Type:=Int × Int × Bool
abbrev A:Type:=Int × Int
abbrev Y:=A→Option R
def lv:List (Nat × List Nat):=[(2000000,[4])]
noncomputable def cs:Nat→Ctx:=ctxOf tis modes tg56.1 lv
theorem cs_ok (n:Nat):CtxOk Tryz.prog (cs n):=ctxOf_ok rfl tis_ok tg56.2 n
def sh:AS:=⟨[.c (.int .i64),.c (.int .i64)],[]⟩
def os:OS:=⟨.agg [.int .i64,.int .i64,.bool],[]⟩
def enc (r:R):Out:=os.enc r
def dec:Out→Option R:=os.dec
noncomputable def b0:Code:=subF [] Tryz.f155
noncomputable def K0 (k:Nat):Kt R:=kTop (cs k) Tryz.f155 dec
noncomputable def f (k:Nat):Y:=fun v=>held (runFn cs k Tryz.f155 (sh.args v) (sh.slots v) dec)
noncomputable def F:Y:=lm f
def d (p0:g56.Y):Y:=fun (v0,v1) =>
bnd (p0 (v0,v1,false)) fun r=>some (r.1,r.2.1,r.2.2)
theorem d_cn (k0:Pr E g56.A g56.R):∀ v:A,Cn E (d k0.p v) fun i=>d (k0.q i) v:=fun (v0,v1)=>(.bnd (k0.h _) fun _=>.some)
theorem f_b (k:Nat):∀ v:A,f k v = d (g56.f k) v:=fun (v0,v1)=>(held_eq _).trans (by kernel_rfl)
theorem F_of (v:A) {r:R} (h:d g56.F v = some r):F v = some r:=join_of (fun L=>f_b (L 0) v) (d_cn (lp g56.f 0) v) h
noncomputable def spec (k:Nat):List AV→List Slot→Option Ans:=specS sh os (f k)
theorem spec_ok (k:Nat):SpecOk Tryz.prog 155 (spec k):=specS_ok cs_ok Tryz.func155 rfl rfl (fun _ _=>held_eq _) k
end g57
noncomputable def tg57:=tg56.cons 155 g57.spec g57.spec_ok
namespace g58 -- bound_Exact_Arc
abbrev R:Type:=Int × Int × Bool
abbrev A:Type:=Int
abbrev Y:=A→Option R
def lv:List (Nat × List Nat):=[(2000000,[2])]
noncomputable def cs:Nat→Ctx:=ctxOf tis modes tg57.1 lv
theorem cs_ok (n:Nat):CtxOk Tryz.prog (cs n):=ctxOf_ok rfl tis_ok tg57.2 n
def sh:AS:=⟨[(.c (.int .i64))],[]⟩
def os:OS:=⟨.agg [.int .i64,.int .i64,.bool],[]⟩
def enc (r:R):Out:=os.enc r
def dec:Out→Option R:=os.dec
noncomputable def b0:Code:=subF [] Tryz.f139
noncomputable def K0 (k:Nat):Kt R:=kTop (cs k) Tryz.f139 dec
noncomputable def f (k:Nat):Y:=fun v=>held (runFn cs k Tryz.f139 (sh.args v) (sh.slots v) dec)
noncomputable def F:Y:=lm f
def d (p0:g57.Y):Y:=fun v0 =>
bnd (p0 (v0,v0)) fun r=>some (r.1,r.2.1,r.2.2)
theorem d_cn (k0:Pr E g57.A g57.R):∀ v:A,Cn E (d k0.p v) fun i=>d (k0.q i) v:=fun v0=>(.bnd (k0.h _) fun _=>.some)
theorem f_b (k:Nat):∀ v:A,f k v = d (g57.f k) v:=fun v0=>(held_eq _).trans (by kernel_rfl)
theorem F_of (v:A) {r:R} (h:d g57.F v = some r):F v = some r:=join_of (fun L=>f_b (L 0) v) (d_cn (lp g57.f 0) v) h
noncomputable def spec (k:Nat):List AV→List Slot→Option Ans:=specS sh os (f k)
theorem spec_ok (k:Nat):SpecOk Tryz.prog 139 (spec k):=specS_ok cs_ok Tryz.func139 rfl rfl (fun _ _=>held_eq _) k
end g58
noncomputable def tg58:=tg57.cons 139 g58.spec g58.spec_ok
namespace g59 -- bound_vague_Arc
abbrev R:Type:=Bool
abbrev A:Type:=Int × Int × Bool × Int × Int × Bool
abbrev Y:=A→Option R
def lv:List (Nat × List Nat):=[(2000000,[4])]
noncomputable def cs:Nat→Ctx:=ctxOf tis modes tg58.1 lv
theorem cs_ok (n:Nat):CtxOk Tryz.prog (cs n):=ctxOf_ok rfl tis_ok tg58.2 n
def sh:AS:=⟨[.agg [.int .i64,.int .i64,.bool],.agg [.int .i64,.int .i64,.bool]],[]⟩
def os:OS:=⟨.c .bool,[]⟩
def enc (r:R):Out:=os.enc r
def dec:Out→Option R:=os.dec
noncomputable def b0:Code:=subF [] Tryz.f174
noncomputable def K0 (k:Nat):Kt R:=kTop (cs k) Tryz.f174 dec
noncomputable def f (k:Nat):Y:=fun v=>held (runFn cs k Tryz.f174 (sh.args v) (sh.slots v) dec)
noncomputable def F:Y:=lm f
def d (p0:g56.Y):Y:=fun (v0,v1,v2,v3,v4,v5) =>
bnd (p0 (v0,v1,v2)) fun r=>br (r.2.2 == false) (bnd (p0 (v3,v4,v5)) fun r=>some r.2.2) (some true)
theorem d_cn (k0:Pr E g56.A g56.R):∀ v:A,Cn E (d k0.p v) fun i=>d (k0.q i) v:=fun (v0,v1,v2,v3,v4,v5)=>(.bnd (k0.h _) fun _=>(.br (.bnd (k0.h _) fun _=>.some) .some))
theorem f_b (k:Nat):∀ v:A,f k v = d (g56.f k) v:=fun (v0,v1,v2,v3,v4,v5)=>(held_eq _).trans (by kernel_rfl)
theorem F_of (v:A) {r:R} (h:d g56.F v = some r):F v = some r:=join_of (fun L=>f_b (L 0) v) (d_cn (lp g56.f 0) v) h
noncomputable def spec (k:Nat):List AV→List Slot→Option Ans:=specS sh os (f k)
theorem spec_ok (k:Nat):SpecOk Tryz.prog 174 (spec k):=specS_ok cs_ok Tryz.func174 rfl rfl (fun _ _=>held_eq _) k
end g59
noncomputable def tg59:=tg58.cons 174 g59.spec g59.spec_ok
namespace g60 -- bound_Add_Arc
abbrev R:Type:=Int × Int × Bool
abbrev A:Type:=Int × Int × Bool × Int × Int × Bool
abbrev Y:=A→Option R
def lv:List (Nat × List Nat):=[(2000000,[4])]
noncomputable def cs:Nat→Ctx:=ctxOf tis modes tg59.1 lv
theorem cs_ok (n:Nat):CtxOk Tryz.prog (cs n):=ctxOf_ok rfl tis_ok tg59.2 n
def sh:AS:=⟨[.agg [.int .i64,.int .i64,.bool],.agg [.int .i64,.int .i64,.bool]],[]⟩
def os:OS:=⟨.agg [.int .i64,.int .i64,.bool],[]⟩
def enc (r:R):Out:=os.enc r
def dec:Out→Option R:=os.dec
noncomputable def b0:Code:=subF [] Tryz.f138
noncomputable def K0 (k:Nat):Kt R:=kTop (cs k) Tryz.f138 dec
noncomputable def f (k:Nat):Y:=fun v=>held (runFn cs k Tryz.f138 (sh.args v) (sh.slots v) dec)
noncomputable def F:Y:=lm f
def d (p0:g59.Y) (p1:g47.Y) (p2:g57.Y):Y:=fun (v0,v1,v2,v3,v4,v5) =>
bnd (p0 (v0,v1,v2,v3,v4,v5)) fun r=>br r (bnd (p1 ()) fun r=>some (r.1,r.2.1,r.2.2)) (bnd (p2 (wrap .i64 (v0 + v3),wrap .i64 (v1 + v4))) fun r=>some (r.1,r.2.1,r.2.2))
theorem d_cn (k0:Pr E g59.A g59.R) (k1:Pr E g47.A g47.R) (k2:Pr E g57.A g57.R):∀ v:A,Cn E (d k0.p k1.p k2.p v) fun i=>d (k0.q i) (k1.q i) (k2.q i) v:=fun (v0,v1,v2,v3,v4,v5)=>(.bnd (k0.h _) fun _=>(.br (.bnd (k1.h _) fun _=>.some) (.bnd (k2.h _) fun _=>.some)))
theorem f_b (k:Nat):∀ v:A,f k v = d (g59.f k) (g47.f k) (g57.f k) v:=fun (v0,v1,v2,v3,v4,v5)=>(held_eq _).trans (by kernel_rfl)
theorem F_of (v:A) {r:R} (h:d g59.F g47.F g57.F v = some r):F v = some r:=join_of (fun L=>f_b (L 0) v) (d_cn (lp g59.f 0) (lp g47.f 0) (lp g57.f 0) v) h
noncomputable def spec (k:Nat):List AV→List Slot→Option Ans:=specS sh os (f k)
theorem spec_ok (k:Nat):SpecOk Tryz.prog 138 (spec k):=specS_ok cs_ok Tryz.func138 rfl rfl (fun _ _=>held_eq _) k
end g60
noncomputable def tg60:=tg59.cons 138 g60.spec g60.spec_ok
namespace g61 -- scale_Sidereal
abbrev R:Type:=Int × Int × Bool
abbrev A:Type:=Int × Int × Int × Int × Int × Int × Bool
abbrev Y:=A→Option R
def lv:List (Nat × List Nat):=[(2000000,[4])]
noncomputable def cs:Nat→Ctx:=ctxOf tis modes tg60.1 lv
theorem cs_ok (n:Nat):CtxOk Tryz.prog (cs n):=ctxOf_ok rfl tis_ok tg60.2 n
def sh:AS:=⟨[.agg [.int .i64,.int .i64,.int .i64,.int .i64],.agg [.int .i64,.int .i64,.bool]],[]⟩
def os:OS:=⟨.agg [.int .i64,.int .i64,.bool],[]⟩
def enc (r:R):Out:=os.enc r
def dec:Out→Option R:=os.dec
noncomputable def b0:Code:=subF [] Tryz.f104
noncomputable def K0 (k:Nat):Kt R:=kTop (cs k) Tryz.f104 dec
noncomputable def f (k:Nat):Y:=fun v=>held (runFn cs k Tryz.f104 (sh.args v) (sh.slots v) dec)
noncomputable def F:Y:=lm f
noncomputable def d (p0:g42.Y) (p1:g46.Y) (p2:g8.Y) (p3:g47.Y) (p4:g52.Y) (p5:g54.Y) (p6:g57.Y) (p7:g58.Y) (p8:g60.Y):Y:=fun (v0,v1,v2,v3,v4,v5,v6) =>
bnd (p0 v0) fun r=>bnd (p1 (v4,v5,v6,r.1,r.2.1,r.2.2)) fun r=>bnd (p2 (v0,v1,v2,v3)) fun r_1=>br (!decide (r_1 = 0) || r.2.2) (bnd (p3 ()) fun r=>some (r.1,r.2.1,r.2.2)) (bnd (p4 (r.1,v2,v3)) fun r_2=>bnd (p5 (r.2.1,v2,v3)) fun r=>br (!decide (r_2.2 = 0) || !decide (r.2 = 0)) (bnd (p3 ()) fun r=>some (r.1,r.2.1,r.2.2)) (bnd (p6 (r_2.1,r.1)) fun r=>bnd (p7 v1) fun r_3=>bnd (p8 (r.1,r.2.1,r.2.2,r_3.1,r_3.2.1,r_3.2.2)) fun r=>some (r.1,r.2.1,r.2.2)))
theorem d_cn (k0:Pr E g42.A g42.R) (k1:Pr E g46.A g46.R) (k2:Pr E g8.A g8.R) (k3:Pr E g47.A g47.R) (k4:Pr E g52.A g52.R) (k5:Pr E g54.A g54.R) (k6:Pr E g57.A g57.R) (k7:Pr E g58.A g58.R) (k8:Pr E g60.A g60.R):∀ v:A,Cn E (d k0.p k1.p k2.p k3.p k4.p k5.p k6.p k7.p k8.p v) fun i=>d (k0.q i) (k1.q i) (k2.q i) (k3.q i) (k4.q i) (k5.q i) (k6.q i) (k7.q i) (k8.q i) v:=fun (v0,v1,v2,v3,v4,v5,v6)=>(.bnd (k0.h _) fun _=>(.bnd (k1.h _) fun _=>(.bnd (k2.h _) fun _=>(.br (.bnd (k3.h _) fun _=>.some) (.bnd (k4.h _) fun _=>(.bnd (k5.h _) fun _=>(.br (.bnd (k3.h _) fun _=>.some) (.bnd (k6.h _) fun _=>(.bnd (k7.h _) fun _=>(.bnd (k8.h _) fun _=>.some))))))))))
theorem f_b (k:Nat):∀ v:A,f k v = d (g42.f k) (g46.f k) (g8.f k) (g47.f k) (g52.f k) (g54.f k) (g57.f k) (g58.f k) (g60.f k) v:=fun (v0,v1,v2,v3,v4,v5,v6)=>(held_eq _).trans (by kernel_rfl)
theorem F_of (v:A) {r:R} (h:d g42.F g46.F g8.F g47.F g52.F g54.F g57.F g58.F g60.F v = some r):F v = some r:=join_of (fun L=>f_b (L 0) v) (d_cn (lp g42.f 0) (lp g46.f 0) (lp g8.f 0) (lp g47.f 0) (lp g52.f 0) (lp g54.f 0) (lp g57.f 0) (lp g58.f 0) (lp g60.f 0) v) h
noncomputable def spec (k:Nat):List AV→List Slot→Option Ans:=specS sh os (f k)
theorem spec_ok (k:Nat):SpecOk Tryz.prog 104 (spec k):=specS_ok cs_ok Tryz.func104 rfl rfl (fun _ _=>held_eq _) k
end g61
noncomputable def tg61:=tg60.cons 104 g61.spec g61.spec_ok
namespace g62 -- horizon_CheckSite
abbrev R:Type:=Int
abbrev A:Type:=Int × Int
abbrev Y:=A→Option R
def lv:List (Nat × List Nat):=[(2000000,[2])]
noncomputable def cs:Nat→Ctx:=ctxOf tis modes tg61.1 lv
theorem cs_ok (n:Nat):CtxOk Tryz.prog (cs n):=ctxOf_ok rfl tis_ok tg61.2 n
def sh:AS:=⟨[(.agg [.int .i64,.int .i64])],[]⟩
def os:OS:=⟨.c (.int .i64),[]⟩
def enc (r:R):Out:=os.enc r
def dec:Out→Option R:=os.dec
noncomputable def b0:Code:=subF [] Tryz.f120
noncomputable def K0 (k:Nat):Kt R:=kTop (cs k) Tryz.f120 dec
noncomputable def f (k:Nat):Y:=fun v=>held (runFn cs k Tryz.f120 (sh.args v) (sh.slots v) dec)
noncomputable def F:Y:=lm f
def d:Y:=fun (v0,v1) =>
br (decide (v0 < -1073741824) || decide (1073741824 < v0) || decide (v1 < 0) || decide (4294967296 ≤ v1)) (some 4) (some 0)
theorem d_cn:∀ v:A,Cn E (d v) fun i=>d v:=fun (v0,v1)=>(.br .some .some)
theorem f_b (k:Nat):∀ v:A,f k v = d v:=fun (v0,v1)=>(held_eq _).trans (by kernel_rfl)
theorem F_of (v:A) {r:R} (h:d v = some r):F v = some r:=join_of (fun L=>f_b (L 0) v) (d_cn v) h
noncomputable def spec (k:Nat):List AV→List Slot→Option Ans:=specS sh os (f k)
theorem spec_ok (k:Nat):SpecOk Tryz.prog 120 (spec k):=specS_ok cs_ok Tryz.func120 rfl rfl (fun _ _=>held_eq _) k
end g62
noncomputable def tg62:=tg61.cons 120 g62.spec g62.spec_ok
namespace g63 -- bound_None_Fix
abbrev R:Type:=Int × Int × Bool
abbrev A:Type:=Unit
abbrev Y:=A→Option R
def lv:List (Nat × List Nat):=[(2000000,[0])]
noncomputable def cs:Nat→Ctx:=ctxOf tis modes tg62.1 lv
theorem cs_ok (n:Nat):CtxOk Tryz.prog (cs n):=ctxOf_ok rfl tis_ok tg62.2 n
def sh:AS:=⟨[],[]⟩
def os:OS:=⟨.agg [.int .i64,.int .i64,.bool],[]⟩
def enc (r:R):Out:=os.enc r
def dec:Out→Option R:=os.dec
noncomputable def b0:Code:=subF [] Tryz.f137
noncomputable def K0 (k:Nat):Kt R:=kTop (cs k) Tryz.f137 dec
noncomputable def f (k:Nat):Y:=fun v=>held (runFn cs k Tryz.f137 (sh.args v) (sh.slots v) dec)
noncomputable def F:Y:=lm f
def d:Y:=fun _ =>
some (0,0,true)
theorem d_cn:∀ v:A,Cn E (d v) fun i=>d v:=fun _=>.some
theorem f_b (k:Nat):∀ v:A,f k v = d v:=fun _=>(held_eq _).trans (by kernel_rfl)
theorem F_of (v:A) {r:R} (h:d v = some r):F v = some r:=join_of (fun L=>f_b (L 0) v) (d_cn v) h
noncomputable def spec (k:Nat):List AV→List Slot→Option Ans:=specS sh os (f k)
theorem spec_ok (k:Nat):SpecOk Tryz.prog 137 (spec k):=specS_ok cs_ok Tryz.func137 rfl rfl (fun _ _=>held_eq _) k
end g63
noncomputable def tg63:=tg62.cons 137 g63.spec g63.spec_ok
namespace g64 -- sphere_Grow
abbrev R:Type:=Int × Int × Int
abbrev A:Type:=Int × Int × Int
abbrev Y:=A→Option R
def lv:List (Nat × List Nat):=[(2000000,[2]),(3,[1,2])]
noncomputable def cs:Nat→Ctx:=ctxOf tis modes tg63.1 lv
theorem cs_ok (n:Nat):CtxOk Tryz.prog (cs n):=ctxOf_ok rfl tis_ok tg63.2 n
def sh:AS:=⟨[(.agg [.int .i64,.int .i64,.int .i64])],[]⟩
def os:OS:=⟨.agg [.int .i64,.int .i64,.int .i64],[]⟩
def enc (r:R):Out:=os.enc r
def dec:Out→Option R:=os.dec
noncomputable def b0:Code:=subF [] Tryz.f121
noncomputable def K0 (k:Nat):Kt R:=kTop (cs k) Tryz.f121 dec
noncomputable def b3:Code:=sub [1,1,0,0] b0
noncomputable def K3 ( k:Nat):Kt R:=kAt (cs k) (loopN cs k) [1,1,0] b0 (K0 k)
abbrev T0:Type:=Int × Int × Int × Int × Int × Int
abbrev Y0:=T0→Option R
def s0:T0→St:=fun (v0,v1,v2,v3,v4,v5)=>⟨23,0,[(1,.c (.ptr 64000000 0)),(2,.c (.ptr 64000001 0))],[],[(256000000,.gone),(64000000,.box [.int .i64 v0,.int .i64 v1,.int .i64 v2]),(64000001,.box [.int .i64 v3,.int .i64 v4,.int .i64 v5])]⟩
noncomputable def l0 ( k n:Nat) (v:T0):Option R:=held (loopN cs n b3 (K3 k) (s0 v))
noncomputable def D0 (v:T0):Option R:=lim fun L=>l0 (L 0) (L 1) v
theorem D0_cn (v:T0):Cn late (D0 v) fun L=>l0 (L 0) (L 1) v:=of_lim
def d0 (p0:g23.Y) (p1:Y0):Y0:=fun (v0,v1,v2,v3,v4,v5) =>
bnd (p0 (wrap .i64 (2 * v0),wrap .i64 (2 * v1),wrap .i64 (2 * v2))) fun r=>br (!decide (r = 0)) (some (v0,v1,v2)) (p1 (wrap .i64 (2 * v0),wrap .i64 (2 * v1),wrap .i64 (2 * v2),v3,v4,v5))
theorem d0_cn (k0:Pr E g23.A g23.R) (k1:Pr E T0 R):∀ v:T0,Cn E (d0 k0.p k1.p v) fun i=>d0 (k0.q i) (k1.q i) v:=fun (v0,v1,v2,v3,v4,v5)=>(.bnd (k0.h _) fun _=>(.br .some (k1.h _)))
theorem l0_b ( k m1:Nat):∀ v:T0,run (cs m1) (loopN cs m1) b3 (kLoop cs m1 b3 (K3 k)) (s0 v) = d0 (g23.f m1) (l0 k m1) v:=fun (v0,v1,v2,v3,v4,v5)=>by kernel_rfl
theorem D0_of (v:T0) {r:R} (h:d0 g23.F D0 v = some r):D0 v = some r:=loop_of 1 (fun L n hn=>by show l0 (L 0) (L 1) v = _; rw [hn]; exact (held_eq _).trans ((loopN_succ _ _ _ _ _).trans (l0_b (L 0) n v))) (d0_cn (lp g23.f 1) (.mk fun v=>(D0_cn v).re [0,1]) v) h
noncomputable def f (k:Nat):Y:=fun v=>held (runFn cs k Tryz.f121 (sh.args v) (sh.slots v) dec)
noncomputable def F:Y:=lm f
def d (p0:g23.Y) (p1:Y0):Y:=fun (v0,v1,v2) =>
bnd (p0 (v0,v1,v2)) fun r=>br (!decide (r = 0)) (some (0,0,0)) (p1 (v0,v1,v2,0,0,0))
theorem d_cn (k0:Pr E g23.A g23.R) (k1:Pr E T0 R):∀ v:A,Cn E (d k0.p k1.p v) fun i=>d (k0.q i) (k1.q i) v:=fun (v0,v1,v2)=>(.bnd (k0.h _) fun _=>(.br .some (k1.h _)))
theorem f_b (k:Nat):∀ v:A,f k v = d (g23.f k) (l0 k k) v:=fun (v0,v1,v2)=>(held_eq _).trans (by kernel_rfl)
theorem F_of (v:A) {r:R} (h:d g23.F D0 v = some r):F v = some r:=join_of (fun L=>f_b (L 0) v) (d_cn (lp g23.f 0) (.mk fun v=>(D0_cn v).re [0,0]) v) h
noncomputable def spec (k:Nat):List AV→List Slot→Option Ans:=specS sh os (f k)
theorem spec_ok (k:Nat):SpecOk Tryz.prog 121 (spec k):=specS_ok cs_ok Tryz.func121 rfl rfl (fun _ _=>held_eq _) k
end g64
noncomputable def tg64:=tg63.cons 121 g64.spec g64.spec_ok
namespace g65 -- trig_times
abbrev R:Type:=Int
abbrev A:Type:=Int × Int
abbrev Y:=A→Option R
def lv:List (Nat × List Nat):=[(2000000,[4])]
noncomputable def cs:Nat→Ctx:=ctxOf tis modes tg64.1 lv
theorem cs_ok (n:Nat):CtxOk Tryz.prog (cs n):=ctxOf_ok rfl tis_ok tg64.2 n
def sh:AS:=⟨[.c (.int .i64),.c (.int .i64)],[]⟩
def os:OS:=⟨.c (.int .i64),[]⟩
def enc (r:R):Out:=os.enc r
def dec:Out→Option R:=os.dec
noncomputable def b0:Code:=subF [] Tryz.f198
noncomputable def K0 (k:Nat):Kt R:=kTop (cs k) Tryz.f198 dec
noncomputable def f (k:Nat):Y:=fun v=>held (runFn cs k Tryz.f198 (sh.args v) (sh.slots v) dec)
noncomputable def F:Y:=lm f
def d (p0:g52.Y):Y:=fun (v0,v1) =>
bnd (p0 (v0,v1,1152921504606846976)) fun r=>some r.1
theorem d_cn (k0:Pr E g52.A g52.R):∀ v:A,Cn E (d k0.p v) fun i=>d (k0.q i) v:=fun (v0,v1)=>(.bnd (k0.h _) fun _=>.some)
theorem f_b (k:Nat):∀ v:A,f k v = d (g52.f k) v:=fun (v0,v1)=>(held_eq _).trans (by kernel_rfl)
theorem F_of (v:A) {r:R} (h:d g52.F v = some r):F v = some r:=join_of (fun L=>f_b (L 0) v) (d_cn (lp g52.f 0) v) h
noncomputable def spec (k:Nat):List AV→List Slot→Option Ans:=specS sh os (f k)
theorem spec_ok (k:Nat):SpecOk Tryz.prog 198 (spec k):=specS_ok cs_ok Tryz.func198 rfl rfl (fun _ _=>held_eq _) k
end g65
noncomputable def tg65:=tg64.cons 198 g65.spec g65.spec_ok
namespace g66 -- trig_series
abbrev R:Type:=Int
abbrev A:Type:=Int × List Int
abbrev Y:=A→Option R
def lv:List (Nat × List Nat):=[(2000000,[4]),(3,[0,5,8,9,10])]
noncomputable def cs:Nat→Ctx:=ctxOf tis modes tg65.1 lv
theorem cs_ok (n:Nat):CtxOk Tryz.prog (cs n):=ctxOf_ok rfl tis_ok tg65.2 n
def sh:AS:=⟨[.c (.int .i64),.c (.frz (.int .i64))],[]⟩
def os:OS:=⟨.c (.int .i64),[]⟩
def enc (r:R):Out:=os.enc r
def dec:Out→Option R:=os.dec
noncomputable def b0:Code:=subF [] Tryz.f199
noncomputable def K0 (k:Nat):Kt R:=kTop (cs k) Tryz.f199 dec
noncomputable def b3:Code:=sub [1,1,0,1,0,0] b0
noncomputable def K3 ( k:Nat):Kt R:=kAt (cs k) (loopN cs k) [1,1,0,1,0] b0 (K0 k)
abbrev T0:Type:=Int × Int × List Int × Int × Int
abbrev Y0:=T0→Option R
def s0:T0→St:=fun (v0,v1,v2,v3,v4)=>⟨22,0,[(0,.c (.int .i64 v0)),(5,.c (.int .i64 v1)),(8,.c (.frz (.int .i64) v2)),(9,.c (.int .i64 v3)),(10,.c (.int .i64 v4))],[],[(256000000,.gone)]⟩
noncomputable def l0 ( k n:Nat) (v:T0):Option R:=held (loopN cs n b3 (K3 k) (s0 v))
noncomputable def D0 (v:T0):Option R:=lim fun L=>l0 (L 0) (L 1) v
theorem D0_cn (v:T0):Cn late (D0 v) fun L=>l0 (L 0) (L 1) v:=of_lim
def d0 (p0:g65.Y) (p1:Y0):Y0:=fun (v0,v1,v2,v3,v4) =>
br (decide (v4 < v3)) (br (decide (0 ≤ v4 ∧ v4 < (↑v2.length:Int))) (bnd (p0 (v0,v1)) fun r=>br (!decide (rd (Ty.int .i64) v2 v4 = 0)) (p1 (v0,wrap .i64 (1152921504606846976 - wrap .i64 (r.tdiv (rd (Ty.int .i64) v2 v4))),v2,v3,wrap .i64 (v4 + 1))) none) none) (some v1)
theorem d0_cn (k0:Pr E g65.A g65.R) (k1:Pr E T0 R):∀ v:T0,Cn E (d0 k0.p k1.p v) fun i=>d0 (k0.q i) (k1.q i) v:=fun (v0,v1,v2,v3,v4)=>(.br (.br (.bnd (k0.h _) fun _=>(.br (k1.h _) .none)) .none) .some)
theorem l0_b ( k m1:Nat):∀ v:T0,run (cs m1) (loopN cs m1) b3 (kLoop cs m1 b3 (K3 k)) (s0 v) = d0 (g65.f m1) (l0 k m1) v:=fun (v0,v1,v2,v3,v4)=>by kernel_rfl
theorem D0_of (v:T0) {r:R} (h:d0 g65.F D0 v = some r):D0 v = some r:=loop_of 1 (fun L n hn=>by show l0 (L 0) (L 1) v = _; rw [hn]; exact (held_eq _).trans ((loopN_succ _ _ _ _ _).trans (l0_b (L 0) n v))) (d0_cn (lp g65.f 1) (.mk fun v=>(D0_cn v).re [0,1]) v) h
noncomputable def f (k:Nat):Y:=fun v=>held (runFn cs k Tryz.f199 (sh.args v) (sh.slots v) dec)
noncomputable def F:Y:=lm f
def d (p0:Y0):Y:=fun (v0,v1) =>
p0 (v0,1152921504606846976,v1,(↑v1.length:Int),0)
theorem d_cn (k0:Pr E T0 R):∀ v:A,Cn E (d k0.p v) fun i=>d (k0.q i) v:=fun (v0,v1)=>(k0.h _)
theorem f_b (k:Nat):∀ v:A,f k v = d (l0 k k) v:=fun (v0,v1)=>(held_eq _).trans (by kernel_rfl)
theorem F_of (v:A) {r:R} (h:d D0 v = some r):F v = some r:=join_of (fun L=>f_b (L 0) v) (d_cn (.mk fun v=>(D0_cn v).re [0,0]) v) h
noncomputable def spec (k:Nat):List AV→List Slot→Option Ans:=specS sh os (f k)
theorem spec_ok (k:Nat):SpecOk Tryz.prog 199 (spec k):=specS_ok cs_ok Tryz.func199 rfl rfl (fun _ _=>held_eq _) k
end g66
noncomputable def tg66:=tg65.cons 199 g66.spec g66.spec_ok
namespace g67 -- num_RoundDiv
abbrev R:Type:=Int
abbrev A:Type:=Int × Int
abbrev Y:=A→Option R
def lv:List (Nat × List Nat):=[(2000000,[4]),(1000008,[5])]
noncomputable def cs:Nat→Ctx:=ctxOf tis modes tg66.1 lv
theorem cs_ok (n:Nat):CtxOk Tryz.prog (cs n):=ctxOf_ok rfl tis_ok tg66.2 n
def sh:AS:=⟨[.c (.int .i64),.c (.int .i64)],[]⟩
def os:OS:=⟨.c (.int .i64),[]⟩
def enc (r:R):Out:=os.enc r
def dec:Out→Option R:=os.dec
noncomputable def b0:Code:=subF [] Tryz.f125
noncomputable def K0 (k:Nat):Kt R:=kTop (cs k) Tryz.f125 dec
noncomputable def c1000008:Code:=sub [1,1,1,1] b0
noncomputable def J1000008 ( k:Nat):Kt R:=kAt (cs k) (loopN cs k) [1,1,1,1] b0 (K0 k)
abbrev T0:Type:=Int
abbrev Y0:=T0→Option R
def s0:T0→St:=fun v0=>⟨41,0,[(5,.c (.int .i64 v0))],[],[(256000000,.gone)]⟩
noncomputable def l0 ( k:Nat) (v:T0):Option R:=held (run (cs k) (loopN cs k) c1000008 (J1000008 k) (s0 v))
noncomputable def D0 (v:T0):Option R:=lim fun L=>l0 (L 0) v
theorem D0_cn (v:T0):Cn late (D0 v) fun L=>l0 (L 0) v:=of_lim
def d0:Y0:=fun v0 =>
some v0
theorem d0_cn:∀ v:T0,Cn E (d0 v) fun i=>d0 v:=fun v0=>.some
theorem l0_b ( k:Nat):∀ v:T0,run (cs k) (loopN cs k) c1000008 (J1000008 k) (s0 v) = d0 v:=fun v0=>by kernel_rfl
theorem D0_of (v:T0) {r:R} (h:d0 v = some r):D0 v = some r:=join_of (fun L=>(held_eq _).trans (l0_b (L 0) v)) (d0_cn v) h
noncomputable def f (k:Nat):Y:=fun v=>held (runFn cs k Tryz.f125 (sh.args v) (sh.slots v) dec)
noncomputable def F:Y:=lm f
def d (p0:Y0):Y:=fun (v0,v1) =>
br (decide (v1 < 1)) (some 0) (br (!decide (v1 = 0)) (br (!decide (v1 = 0)) (br (decide (wrap .i64 (v1 - v0.tmod v1) ≤ v0.tmod v1) && decide (0 < v0.tmod v1)) (p0 (wrap .i64 (wrap .i64 (v0.tdiv v1) + 1))) (br (decide (v0.tmod v1 < 0) && decide (wrap .i64 (v1 + v0.tmod v1) ≤ wrap .i64 (0 - v0.tmod v1))) (p0 (wrap .i64 (wrap .i64 (v0.tdiv v1) - 1))) (p0 (wrap .i64 (v0.tdiv v1))))) none) none)
theorem d_cn (k0:Pr E T0 R):∀ v:A,Cn E (d k0.p v) fun i=>d (k0.q i) v:=fun (v0,v1)=>(.br .some (.br (.br (.br (k0.h _) (.br (k0.h _) (k0.h _))) .none) .none))
theorem f_b (k:Nat):∀ v:A,f k v = d (l0 k) v:=fun (v0,v1)=>(held_eq _).trans (by kernel_rfl)
theorem F_of (v:A) {r:R} (h:d D0 v = some r):F v = some r:=join_of (fun L=>f_b (L 0) v) (d_cn (.mk fun v=>(D0_cn v).re [0]) v) h
noncomputable def spec (k:Nat):List AV→List Slot→Option Ans:=specS sh os (f k)
theorem spec_ok (k:Nat):SpecOk Tryz.prog 125 (spec k):=specS_ok cs_ok Tryz.func125 rfl rfl (fun _ _=>held_eq _) k
end g67
noncomputable def tg67:=tg66.cons 125 g67.spec g67.spec_ok
namespace g68 -- trig_quarter
abbrev R:Type:=Int
abbrev A:Type:=Int
abbrev Y:=A→Option R
def lv:List (Nat × List Nat):=[(2000000,[2]),(1000004,[0,3])]
noncomputable def cs:Nat→Ctx:=ctxOf tis modes tg67.1 lv
theorem cs_ok (n:Nat):CtxOk Tryz.prog (cs n):=ctxOf_ok rfl tis_ok tg67.2 n
def sh:AS:=⟨[(.c (.int .i64))],[]⟩
def os:OS:=⟨.c (.int .i64),[]⟩
def enc (r:R):Out:=os.enc r
def dec:Out→Option R:=os.dec
noncomputable def b0:Code:=subF [] Tryz.f165
noncomputable def K0 (k:Nat):Kt R:=kTop (cs k) Tryz.f165 dec
noncomputable def c1000004:Code:=sub [1,1,1] b0
noncomputable def J1000004 ( k:Nat):Kt R:=kAt (cs k) (loopN cs k) [1,1,1] b0 (K0 k)
abbrev T0:Type:=Int × Bool
abbrev Y0:=T0→Option R
def s0:T0→St:=fun (v0,v1)=>⟨31,0,[(0,.c (.int .i64 v0)),(3,.c (.bool v1))],[],[(256000000,.gone)]⟩
noncomputable def l0 ( k:Nat) (v:T0):Option R:=held (run (cs k) (loopN cs k) c1000004 (J1000004 k) (s0 v))
noncomputable def D0 (v:T0):Option R:=lim fun L=>l0 (L 0) v
theorem D0_cn (v:T0):Cn late (D0 v) fun L=>l0 (L 0) v:=of_lim
def d0 (p0:g52.Y) (p1:g65.Y) (p2:g66.Y) (p3:g67.Y):Y0:=fun (v0,v1) =>
bnd (p0 (v0,1811004864519280710,1073741824)) fun r=>bnd (p1 (r.1,r.1)) fun r_1=>br v1 (bnd (p2 (r_1,[182,132,90,56,30,12,2])) fun r=>bnd (p3 (r,1073741824)) fun r=>some r) (bnd (p2 (r_1,[156,110,72,42,20,6])) fun r_2=>bnd (p1 (r.1,r_2)) fun r=>bnd (p3 (r,1073741824)) fun r=>some r)
theorem d0_cn (k0:Pr E g52.A g52.R) (k1:Pr E g65.A g65.R) (k2:Pr E g66.A g66.R) (k3:Pr E g67.A g67.R):∀ v:T0,Cn E (d0 k0.p k1.p k2.p k3.p v) fun i=>d0 (k0.q i) (k1.q i) (k2.q i) (k3.q i) v:=fun (v0,v1)=>(.bnd (k0.h _) fun _=>(.bnd (k1.h _) fun _=>(.br (.bnd (k2.h _) fun _=>(.bnd (k3.h _) fun _=>.some)) (.bnd (k2.h _) fun _=>(.bnd (k1.h _) fun _=>(.bnd (k3.h _) fun _=>.some))))))
theorem l0_b ( k:Nat):∀ v:T0,run (cs k) (loopN cs k) c1000004 (J1000004 k) (s0 v) = d0 (g52.f k) (g65.f k) (g66.f k) (g67.f k) v:=fun (v0,v1)=>by kernel_rfl
theorem D0_of (v:T0) {r:R} (h:d0 g52.F g65.F g66.F g67.F v = some r):D0 v = some r:=join_of (fun L=>(held_eq _).trans (l0_b (L 0) v)) (d0_cn (lp g52.f 0) (lp g65.f 0) (lp g66.f 0) (lp g67.f 0) v) h
noncomputable def f (k:Nat):Y:=fun v=>held (runFn cs k Tryz.f165 (sh.args v) (sh.slots v) dec)
noncomputable def F:Y:=lm f
def d (p0:Y0):Y:=fun v0 =>
br (decide (536870912 < v0)) (p0 (wrap .i64 (1073741824 - v0),decide (536870912 < v0))) (p0 (v0,decide (536870912 < v0)))
theorem d_cn (k0:Pr E T0 R):∀ v:A,Cn E (d k0.p v) fun i=>d (k0.q i) v:=fun v0=>(.br (k0.h _) (k0.h _))
theorem f_b (k:Nat):∀ v:A,f k v = d (l0 k) v:=fun v0=>(held_eq _).trans (by kernel_rfl)
theorem F_of (v:A) {r:R} (h:d D0 v = some r):F v = some r:=join_of (fun L=>f_b (L 0) v) (d_cn (.mk fun v=>(D0_cn v).re [0]) v) h
noncomputable def spec (k:Nat):List AV→List Slot→Option Ans:=specS sh os (f k)
theorem spec_ok (k:Nat):SpecOk Tryz.prog 165 (spec k):=specS_ok cs_ok Tryz.func165 rfl rfl (fun _ _=>held_eq _) k
end g68
noncomputable def tg68:=tg67.cons 165 g68.spec g68.spec_ok
namespace g69 -- trig_Sin
abbrev R:Type:=Int
abbrev A:Type:=Int
abbrev Y:=A→Option R
def lv:List (Nat × List Nat):=[(2000000,[2])]
noncomputable def cs:Nat→Ctx:=ctxOf tis modes tg68.1 lv
theorem cs_ok (n:Nat):CtxOk Tryz.prog (cs n):=ctxOf_ok rfl tis_ok tg68.2 n
def sh:AS:=⟨[(.c (.int .i64))],[]⟩
def os:OS:=⟨.c (.int .i64),[]⟩
def enc (r:R):Out:=os.enc r
def dec:Out→Option R:=os.dec
noncomputable def b0:Code:=subF [] Tryz.f124
noncomputable def K0 (k:Nat):Kt R:=kTop (cs k) Tryz.f124 dec
noncomputable def f (k:Nat):Y:=fun v=>held (runFn cs k Tryz.f124 (sh.args v) (sh.slots v) dec)
noncomputable def F:Y:=lm f
noncomputable def d (p0:g68.Y):Y:=fun v0 =>
br (!decide (1073741824 = 0)) (br (decide (wrap .i64 ((bAnd .i64 v0 4294967295).tdiv 1073741824) = 0)) (bnd (p0 (bAnd .i64 (bAnd .i64 v0 4294967295) 1073741823)) fun r=>some r) (br (decide (wrap .i64 ((bAnd .i64 v0 4294967295).tdiv 1073741824) = 1)) (bnd (p0 (wrap .i64 (1073741824 - bAnd .i64 (bAnd .i64 v0 4294967295) 1073741823))) fun r=>some r) (br (decide (wrap .i64 ((bAnd .i64 v0 4294967295).tdiv 1073741824) = 2)) (bnd (p0 (bAnd .i64 (bAnd .i64 v0 4294967295) 1073741823)) fun r=>some (wrap .i64 (0 - r))) (bnd (p0 (wrap .i64 (1073741824 - bAnd .i64 (bAnd .i64 v0 4294967295) 1073741823))) fun r=>some (wrap .i64 (0 - r)))))) none
theorem d_cn (k0:Pr E g68.A g68.R):∀ v:A,Cn E (d k0.p v) fun i=>d (k0.q i) v:=fun v0=>(.br (.br (.bnd (k0.h _) fun _=>.some) (.br (.bnd (k0.h _) fun _=>.some) (.br (.bnd (k0.h _) fun _=>.some) (.bnd (k0.h _) fun _=>.some)))) .none)
theorem f_b (k:Nat):∀ v:A,f k v = d (g68.f k) v:=fun v0=>(held_eq _).trans (by kernel_rfl)
theorem F_of (v:A) {r:R} (h:d g68.F v = some r):F v = some r:=join_of (fun L=>f_b (L 0) v) (d_cn (lp g68.f 0) v) h
noncomputable def spec (k:Nat):List AV→List Slot→Option Ans:=specS sh os (f k)
theorem spec_ok (k:Nat):SpecOk Tryz.prog 124 (spec k):=specS_ok cs_ok Tryz.func124 rfl rfl (fun _ _=>held_eq _) k
end g69
noncomputable def tg69:=tg68.cons 124 g69.spec g69.spec_ok
namespace g70 -- trig_Cos
abbrev R:Type:=Int
abbrev A:Type:=Int
abbrev Y:=A→Option R
def lv:List (Nat × List Nat):=[(2000000,[2])]
noncomputable def cs:Nat→Ctx:=ctxOf tis modes tg69.1 lv
theorem cs_ok (n:Nat):CtxOk Tryz.prog (cs n):=ctxOf_ok rfl tis_ok tg69.2 n
def sh:AS:=⟨[(.c (.int .i64))],[]⟩
def os:OS:=⟨.c (.int .i64),[]⟩
def enc (r:R):Out:=os.enc r
def dec:Out→Option R:=os.dec
noncomputable def b0:Code:=subF [] Tryz.f123
noncomputable def K0 (k:Nat):Kt R:=kTop (cs k) Tryz.f123 dec
noncomputable def f (k:Nat):Y:=fun v=>held (runFn cs k Tryz.f123 (sh.args v) (sh.slots v) dec)
noncomputable def F:Y:=lm f
def d (p0:g69.Y):Y:=fun v0 =>
bnd (p0 (wrap .i64 (bAnd .i64 v0 4294967295 + 1073741824))) fun r=>some r
theorem d_cn (k0:Pr E g69.A g69.R):∀ v:A,Cn E (d k0.p v) fun i=>d (k0.q i) v:=fun v0=>(.bnd (k0.h _) fun _=>.some)
theorem f_b (k:Nat):∀ v:A,f k v = d (g69.f k) v:=fun v0=>(held_eq _).trans (by kernel_rfl)
theorem F_of (v:A) {r:R} (h:d g69.F v = some r):F v = some r:=join_of (fun L=>f_b (L 0) v) (d_cn (lp g69.f 0) v) h
noncomputable def spec (k:Nat):List AV→List Slot→Option Ans:=specS sh os (f k)
theorem spec_ok (k:Nat):SpecOk Tryz.prog 123 (spec k):=specS_ok cs_ok Tryz.func123 rfl rfl (fun _ _=>held_eq _) k
end g70
noncomputable def tg70:=tg69.cons 123 g70.spec g70.spec_ok
namespace g71 -- num_FloorDiv
abbrev R:Type:=Int
abbrev A:Type:=Int × Int
abbrev Y:=A→Option R
def lv:List (Nat × List Nat):=[(2000000,[4]),(1000006,[5])]
noncomputable def cs:Nat→Ctx:=ctxOf tis modes tg70.1 lv
theorem cs_ok (n:Nat):CtxOk Tryz.prog (cs n):=ctxOf_ok rfl tis_ok tg70.2 n
def sh:AS:=⟨[.c (.int .i64),.c (.int .i64)],[]⟩
def os:OS:=⟨.c (.int .i64),[]⟩
def enc (r:R):Out:=os.enc r
def dec:Out→Option R:=os.dec
noncomputable def b0:Code:=subF [] Tryz.f221
noncomputable def K0 (k:Nat):Kt R:=kTop (cs k) Tryz.f221 dec
noncomputable def c1000006:Code:=sub [1,1,1,1] b0
noncomputable def J1000006 ( k:Nat):Kt R:=kAt (cs k) (loopN cs k) [1,1,1,1] b0 (K0 k)
abbrev T0:Type:=Int
abbrev Y0:=T0→Option R
def s0:T0→St:=fun v0=>⟨18,0,[(5,.c (.int .i64 v0))],[],[(256000000,.gone)]⟩
noncomputable def l0 ( k:Nat) (v:T0):Option R:=held (run (cs k) (loopN cs k) c1000006 (J1000006 k) (s0 v))
noncomputable def D0 (v:T0):Option R:=lim fun L=>l0 (L 0) v
theorem D0_cn (v:T0):Cn late (D0 v) fun L=>l0 (L 0) v:=of_lim
def d0:Y0:=fun v0 =>
some v0
theorem d0_cn:∀ v:T0,Cn E (d0 v) fun i=>d0 v:=fun v0=>.some
theorem l0_b ( k:Nat):∀ v:T0,run (cs k) (loopN cs k) c1000006 (J1000006 k) (s0 v) = d0 v:=fun v0=>by kernel_rfl
theorem D0_of (v:T0) {r:R} (h:d0 v = some r):D0 v = some r:=join_of (fun L=>(held_eq _).trans (l0_b (L 0) v)) (d0_cn v) h
noncomputable def f (k:Nat):Y:=fun v=>held (runFn cs k Tryz.f221 (sh.args v) (sh.slots v) dec)
noncomputable def F:Y:=lm f
def d (p0:Y0):Y:=fun (v0,v1) =>
br (decide (v1 < 1)) (some 0) (br (!decide (v1 = 0)) (br (!decide (v1 = 0)) (br (decide (v0.tmod v1 < 0)) (p0 (wrap .i64 (wrap .i64 (v0.tdiv v1) - 1))) (p0 (wrap .i64 (v0.tdiv v1)))) none) none)
theorem d_cn (k0:Pr E T0 R):∀ v:A,Cn E (d k0.p v) fun i=>d (k0.q i) v:=fun (v0,v1)=>(.br .some (.br (.br (.br (k0.h _) (k0.h _)) .none) .none))
theorem f_b (k:Nat):∀ v:A,f k v = d (l0 k) v:=fun (v0,v1)=>(held_eq _).trans (by kernel_rfl)
theorem F_of (v:A) {r:R} (h:d D0 v = some r):F v = some r:=join_of (fun L=>f_b (L 0) v) (d_cn (.mk fun v=>(D0_cn v).re [0]) v) h
noncomputable def spec (k:Nat):List AV→List Slot→Option Ans:=specS sh os (f k)
theorem spec_ok (k:Nat):SpecOk Tryz.prog 221 (spec k):=specS_ok cs_ok Tryz.func221 rfl rfl (fun _ _=>held_eq _) k
end g71
noncomputable def tg71:=tg70.cons 221 g71.spec g71.spec_ok
namespace g72 -- trig_meets
abbrev R:Type:=Bool
abbrev A:Type:=Int × Int × Bool × Int
abbrev Y:=A→Option R
def lv:List (Nat × List Nat):=[(2000000,[4])]
noncomputable def cs:Nat→Ctx:=ctxOf tis modes tg71.1 lv
theorem cs_ok (n:Nat):CtxOk Tryz.prog (cs n):=ctxOf_ok rfl tis_ok tg71.2 n
def sh:AS:=⟨[.agg [.int .i64,.int .i64,.bool],.c (.int .i64)],[]⟩
def os:OS:=⟨.c .bool,[]⟩
def enc (r:R):Out:=os.enc r
def dec:Out→Option R:=os.dec
noncomputable def b0:Code:=subF [] Tryz.f206
noncomputable def K0 (k:Nat):Kt R:=kTop (cs k) Tryz.f206 dec
noncomputable def f (k:Nat):Y:=fun v=>held (runFn cs k Tryz.f206 (sh.args v) (sh.slots v) dec)
noncomputable def F:Y:=lm f
def d (p0:g71.Y) (p1:g5.Y):Y:=fun (v0,v1,v2,v3) =>
bnd (p0 (wrap .i64 (v1 - v3),4294967296)) fun r=>bnd (p1 (wrap .i64 (v0 - v3),4294967296)) fun r_1=>some (decide (r_1 ≤ r))
theorem d_cn (k0:Pr E g71.A g71.R) (k1:Pr E g5.A g5.R):∀ v:A,Cn E (d k0.p k1.p v) fun i=>d (k0.q i) (k1.q i) v:=fun (v0,v1,v2,v3)=>(.bnd (k0.h _) fun _=>(.bnd (k1.h _) fun _=>.some))
theorem f_b (k:Nat):∀ v:A,f k v = d (g71.f k) (g5.f k) v:=fun (v0,v1,v2,v3)=>(held_eq _).trans (by kernel_rfl)
theorem F_of (v:A) {r:R} (h:d g71.F g5.F v = some r):F v = some r:=join_of (fun L=>f_b (L 0) v) (d_cn (lp g71.f 0) (lp g5.f 0) v) h
noncomputable def spec (k:Nat):List AV→List Slot→Option Ans:=specS sh os (f k)
theorem spec_ok (k:Nat):SpecOk Tryz.prog 206 (spec k):=specS_ok cs_ok Tryz.func206 rfl rfl (fun _ _=>held_eq _) k
end g72
noncomputable def tg72:=tg71.cons 206 g72.spec g72.spec_ok
namespace g73 -- bound_Check_Fix
abbrev R:Type:=Int
abbrev A:Type:=Int × Int × Bool
abbrev Y:=A→Option R
def lv:List (Nat × List Nat):=[(2000000,[2])]
noncomputable def cs:Nat→Ctx:=ctxOf tis modes tg72.1 lv
theorem cs_ok (n:Nat):CtxOk Tryz.prog (cs n):=ctxOf_ok rfl tis_ok tg72.2 n
def sh:AS:=⟨[(.agg [.int .i64,.int .i64,.bool])],[]⟩
def os:OS:=⟨.c (.int .i64),[]⟩
def enc (r:R):Out:=os.enc r
def dec:Out→Option R:=os.dec
noncomputable def b0:Code:=subF [] Tryz.f209
noncomputable def K0 (k:Nat):Kt R:=kTop (cs k) Tryz.f209 dec
noncomputable def f (k:Nat):Y:=fun v=>held (runFn cs k Tryz.f209 (sh.args v) (sh.slots v) dec)
noncomputable def F:Y:=lm f
def d:Y:=fun (v0,v1,v2) =>
br (v2 && (!decide (v0 = 0) || !decide (v1 = 0))) (some 3) (br (decide (min v0 v1 < -1152921504606846976) || decide (1152921504606846976 < max v0 v1)) (some 4) (br (decide (v1 < v0)) (some 11) (some 0)))
theorem d_cn:∀ v:A,Cn E (d v) fun i=>d v:=fun (v0,v1,v2)=>(.br .some (.br .some (.br .some .some)))
theorem f_b (k:Nat):∀ v:A,f k v = d v:=fun (v0,v1,v2)=>(held_eq _).trans (by kernel_rfl)
theorem F_of (v:A) {r:R} (h:d v = some r):F v = some r:=join_of (fun L=>f_b (L 0) v) (d_cn v) h
noncomputable def spec (k:Nat):List AV→List Slot→Option Ans:=specS sh os (f k)
theorem spec_ok (k:Nat):SpecOk Tryz.prog 209 (spec k):=specS_ok cs_ok Tryz.func209 rfl rfl (fun _ _=>held_eq _) k
end g73
noncomputable def tg73:=tg72.cons 209 g73.spec g73.spec_ok
namespace g74 -- bound_Norm_Fix
abbrev R:Type:=Int × Int × Bool
abbrev A:Type:=Int × Int × Bool
abbrev Y:=A→Option R
def lv:List (Nat × List Nat):=[(2000000,[2])]
noncomputable def cs:Nat→Ctx:=ctxOf tis modes tg73.1 lv
theorem cs_ok (n:Nat):CtxOk Tryz.prog (cs n):=ctxOf_ok rfl tis_ok tg73.2 n
def sh:AS:=⟨[(.agg [.int .i64,.int .i64,.bool])],[]⟩
def os:OS:=⟨.agg [.int .i64,.int .i64,.bool],[]⟩
def enc (r:R):Out:=os.enc r
def dec:Out→Option R:=os.dec
noncomputable def b0:Code:=subF [] Tryz.f183
noncomputable def K0 (k:Nat):Kt R:=kTop (cs k) Tryz.f183 dec
noncomputable def f (k:Nat):Y:=fun v=>held (runFn cs k Tryz.f183 (sh.args v) (sh.slots v) dec)
noncomputable def F:Y:=lm f
def d (p0:g73.Y) (p1:g63.Y):Y:=fun (v0,v1,v2) =>
bnd (p0 (v0,v1,v2)) fun r=>br (!decide (r = 0)) (bnd (p1 ()) fun r=>some (r.1,r.2.1,r.2.2)) (some (v0,v1,v2))
theorem d_cn (k0:Pr E g73.A g73.R) (k1:Pr E g63.A g63.R):∀ v:A,Cn E (d k0.p k1.p v) fun i=>d (k0.q i) (k1.q i) v:=fun (v0,v1,v2)=>(.bnd (k0.h _) fun _=>(.br (.bnd (k1.h _) fun _=>.some) .some))
theorem f_b (k:Nat):∀ v:A,f k v = d (g73.f k) (g63.f k) v:=fun (v0,v1,v2)=>(held_eq _).trans (by kernel_rfl)
theorem F_of (v:A) {r:R} (h:d g73.F g63.F v = some r):F v = some r:=join_of (fun L=>f_b (L 0) v) (d_cn (lp g73.f 0) (lp g63.f 0) v) h
noncomputable def spec (k:Nat):List AV→List Slot→Option Ans:=specS sh os (f k)
theorem spec_ok (k:Nat):SpecOk Tryz.prog 183 (spec k):=specS_ok cs_ok Tryz.func183 rfl rfl (fun _ _=>held_eq _) k
end g74
noncomputable def tg74:=tg73.cons 183 g74.spec g74.spec_ok
namespace g75 -- bound_Of_Fix
abbrev R:Type:=Int × Int × Bool
abbrev A:Type:=Int × Int
abbrev Y:=A→Option R
def lv:List (Nat × List Nat):=[(2000000,[4])]
noncomputable def cs:Nat→Ctx:=ctxOf tis modes tg74.1 lv
theorem cs_ok (n:Nat):CtxOk Tryz.prog (cs n):=ctxOf_ok rfl tis_ok tg74.2 n
def sh:AS:=⟨[.c (.int .i64),.c (.int .i64)],[]⟩
def os:OS:=⟨.agg [.int .i64,.int .i64,.bool],[]⟩
def enc (r:R):Out:=os.enc r
def dec:Out→Option R:=os.dec
noncomputable def b0:Code:=subF [] Tryz.f149
noncomputable def K0 (k:Nat):Kt R:=kTop (cs k) Tryz.f149 dec
noncomputable def f (k:Nat):Y:=fun v=>held (runFn cs k Tryz.f149 (sh.args v) (sh.slots v) dec)
noncomputable def F:Y:=lm f
def d (p0:g74.Y):Y:=fun (v0,v1) =>
bnd (p0 (v0,v1,false)) fun r=>some (r.1,r.2.1,r.2.2)
theorem d_cn (k0:Pr E g74.A g74.R):∀ v:A,Cn E (d k0.p v) fun i=>d (k0.q i) v:=fun (v0,v1)=>(.bnd (k0.h _) fun _=>.some)
theorem f_b (k:Nat):∀ v:A,f k v = d (g74.f k) v:=fun (v0,v1)=>(held_eq _).trans (by kernel_rfl)
theorem F_of (v:A) {r:R} (h:d g74.F v = some r):F v = some r:=join_of (fun L=>f_b (L 0) v) (d_cn (lp g74.f 0) v) h
noncomputable def spec (k:Nat):List AV→List Slot→Option Ans:=specS sh os (f k)
theorem spec_ok (k:Nat):SpecOk Tryz.prog 149 (spec k):=specS_ok cs_ok Tryz.func149 rfl rfl (fun _ _=>held_eq _) k
end g75
noncomputable def tg75:=tg74.cons 149 g75.spec g75.spec_ok
namespace g76 -- trig_wave
abbrev R:Type:=Int × Int × Bool
abbrev A:Type:=Int × Int × Bool × Int
abbrev Y:=A→Option R
def lv:List (Nat × List Nat):=[(2000000,[6]),(1000008,[2,3,6,9,10]),(1000010,[6,9,10])]
noncomputable def cs:Nat→Ctx:=ctxOf tis modes tg75.1 lv
theorem cs_ok (n:Nat):CtxOk Tryz.prog (cs n):=ctxOf_ok rfl tis_ok tg75.2 n
def sh:AS:=⟨[.agg [.int .i64,.int .i64,.bool],.c (.func 123 []),.c (.int .i64)],[]⟩
def os:OS:=⟨.agg [.int .i64,.int .i64,.bool],[]⟩
def enc (r:R):Out:=os.enc r
def dec:Out→Option R:=os.dec
noncomputable def b0:Code:=subF [] Tryz.f176
noncomputable def K0 (k:Nat):Kt R:=kTop (cs k) Tryz.f176 dec
noncomputable def c1000008:Code:=sub [1,1,1,1,1] b0
noncomputable def J1000008 ( k:Nat):Kt R:=kAt (cs k) (loopN cs k) [1,1,1,1,1] b0 (K0 k)
noncomputable def c1000010:Code:=sub [1,1,1,1,1,1] b0
noncomputable def J1000010 ( k:Nat):Kt R:=kAt (cs k) (loopN cs k) [1,1,1,1,1,1] b0 (K0 k)
abbrev T0:Type:=Int × Int × Int × Int × Int × Bool × Int × Int × Bool
abbrev Y0:=T0→Option R
def s0:T0→St:=fun (v0,v1,v2,v3,v4,v5,v6,v7,v8)=>⟨44,0,[(2,.c (.int .i64 v0)),(3,.c (.ptr 64000000 0)),(6,.c (.ptr 64000001 0)),(9,.c (.int .i64 v1)),(10,.c (.int .i64 v2))],[],[(256000000,.gone),(64000000,.box [.int .i64 v3,.int .i64 v4,.bool v5]),(64000001,.box [.int .i64 v6,.int .i64 v7,.bool v8])]⟩
noncomputable def l0 ( k:Nat) (v:T0):Option R:=held (run (cs k) (loopN cs k) c1000008 (J1000008 k) (s0 v))
noncomputable def D0 (v:T0):Option R:=lim fun L=>l0 (L 0) v
theorem D0_cn (v:T0):Cn late (D0 v) fun L=>l0 (L 0) v:=of_lim
abbrev T1:Type:=Int × Int × Int × Int × Bool
abbrev Y1:=T1→Option R
def s1:T1→St:=fun (v0,v1,v2,v3,v4)=>⟨44,0,[(6,.c (.ptr 64000000 0)),(9,.c (.int .i64 v0)),(10,.c (.int .i64 v1))],[],[(256000000,.gone),(64000000,.box [.int .i64 v2,.int .i64 v3,.bool v4])]⟩
noncomputable def l1 ( k:Nat) (v:T1):Option R:=held (run (cs k) (loopN cs k) c1000010 (J1000010 k) (s1 v))
noncomputable def D1 (v:T1):Option R:=lim fun L=>l1 (L 0) v
theorem D1_cn (v:T1):Cn late (D1 v) fun L=>l1 (L 0) v:=of_lim
def d0 (p0:g72.Y) (p1:Y1):Y0:=fun (v0,v1,v2,v3,v4,v5,v6,v7,v8) =>
bnd (p0 (v3,v4,v5,wrap .i64 (v0 + 2147483648))) fun r=>br r (p1 (-1073741824,v2,v6,v7,v8)) (p1 (v1,v2,v6,v7,v8))
theorem d0_cn (k0:Pr E g72.A g72.R) (k1:Pr E T1 R):∀ v:T0,Cn E (d0 k0.p k1.p v) fun i=>d0 (k0.q i) (k1.q i) v:=fun (v0,v1,v2,v3,v4,v5,v6,v7,v8)=>(.bnd (k0.h _) fun _=>(.br (k1.h _) (k1.h _)))
theorem l0_b ( k:Nat):∀ v:T0,run (cs k) (loopN cs k) c1000008 (J1000008 k) (s0 v) = d0 (g72.f k) (l1 k) v:=fun (v0,v1,v2,v3,v4,v5,v6,v7,v8)=>by kernel_rfl
theorem D0_of (v:T0) {r:R} (h:d0 g72.F D1 v = some r):D0 v = some r:=join_of (fun L=>(held_eq _).trans (l0_b (L 0) v)) (d0_cn (lp g72.f 0) (.mk fun v=>(D1_cn v).re [0]) v) h
def d1 (p0:g75.Y):Y1:=fun (v0,v1,v2,v3,v4) =>
bnd (p0 (v0,v1)) fun r=>some (r.1,r.2.1,r.2.2)
theorem d1_cn (k0:Pr E g75.A g75.R):∀ v:T1,Cn E (d1 k0.p v) fun i=>d1 (k0.q i) v:=fun (v0,v1,v2,v3,v4)=>(.bnd (k0.h _) fun _=>.some)
theorem l1_b ( k:Nat):∀ v:T1,run (cs k) (loopN cs k) c1000010 (J1000010 k) (s1 v) = d1 (g75.f k) v:=fun (v0,v1,v2,v3,v4)=>by kernel_rfl
theorem D1_of (v:T1) {r:R} (h:d1 g75.F v = some r):D1 v = some r:=join_of (fun L=>(held_eq _).trans (l1_b (L 0) v)) (d1_cn (lp g75.f 0) v) h
noncomputable def f (k:Nat):Y:=fun v=>held (runFn cs k Tryz.f176 (sh.args v) (sh.slots v) dec)
noncomputable def F:Y:=lm f
def d (p0:g56.Y) (p1:g63.Y) (p2:g70.Y) (p3:g72.Y) (p4:Y0):Y:=fun (v0,v1,v2,v3) =>
bnd (p0 (v0,v1,v2)) fun r=>br r.2.2 (bnd (p1 ()) fun r=>some (r.1,r.2.1,r.2.2)) (bnd (p2 r.1) fun r_1=>bnd (p2 r.2.1) fun r_2=>bnd (p3 (r.1,r.2.1,r.2.2,v3)) fun r_3=>br r_3 (p4 (v3,max (-1073741824) (wrap .i64 (min r_1 r_2 - 1)),1073741824,r.1,r.2.1,r.2.2,0,0,false)) (p4 (v3,max (-1073741824) (wrap .i64 (min r_1 r_2 - 1)),min 1073741824 (wrap .i64 (max r_1 r_2 + 1)),r.1,r.2.1,r.2.2,0,0,false)))
theorem d_cn (k0:Pr E g56.A g56.R) (k1:Pr E g63.A g63.R) (k2:Pr E g70.A g70.R) (k3:Pr E g72.A g72.R) (k4:Pr E T0 R):∀ v:A,Cn E (d k0.p k1.p k2.p k3.p k4.p v) fun i=>d (k0.q i) (k1.q i) (k2.q i) (k3.q i) (k4.q i) v:=fun (v0,v1,v2,v3)=>(.bnd (k0.h _) fun _=>(.br (.bnd (k1.h _) fun _=>.some) (.bnd (k2.h _) fun _=>(.bnd (k2.h _) fun _=>(.bnd (k3.h _) fun _=>(.br (k4.h _) (k4.h _)))))))
theorem f_b (k:Nat):∀ v:A,f k v = d (g56.f k) (g63.f k) (g70.f k) (g72.f k) (l0 k) v:=fun (v0,v1,v2,v3)=>(held_eq _).trans (by kernel_rfl)
theorem F_of (v:A) {r:R} (h:d g56.F g63.F g70.F g72.F D0 v = some r):F v = some r:=join_of (fun L=>f_b (L 0) v) (d_cn (lp g56.f 0) (lp g63.f 0) (lp g70.f 0) (lp g72.f 0) (.mk fun v=>(D0_cn v).re [0]) v) h
noncomputable def spec (k:Nat):List AV→List Slot→Option Ans:=specS sh os (f k)
theorem spec_ok (k:Nat):SpecOk Tryz.prog 176 (spec k):=specS_ok cs_ok Tryz.func176 rfl rfl (fun _ _=>held_eq _) k
end g76
noncomputable def tg76:=tg75.cons 176 g76.spec g76.spec_ok
namespace g77 -- trig_CosBound
abbrev R:Type:=Int × Int × Bool
abbrev A:Type:=Int × Int × Bool
abbrev Y:=A→Option R
def lv:List (Nat × List Nat):=[(2000000,[2])]
noncomputable def cs:Nat→Ctx:=ctxOf tis modes tg76.1 lv
theorem cs_ok (n:Nat):CtxOk Tryz.prog (cs n):=ctxOf_ok rfl tis_ok tg76.2 n
def sh:AS:=⟨[(.agg [.int .i64,.int .i64,.bool])],[]⟩
def os:OS:=⟨.agg [.int .i64,.int .i64,.bool],[]⟩
def enc (r:R):Out:=os.enc r
def dec:Out→Option R:=os.dec
noncomputable def b0:Code:=subF [] Tryz.f142
noncomputable def K0 (k:Nat):Kt R:=kTop (cs k) Tryz.f142 dec
noncomputable def f (k:Nat):Y:=fun v=>held (runFn cs k Tryz.f142 (sh.args v) (sh.slots v) dec)
noncomputable def F:Y:=lm f
def d (p0:g76.Y):Y:=fun (v0,v1,v2) =>
bnd (p0 (v0,v1,v2,0)) fun r=>some (r.1,r.2.1,r.2.2)
theorem d_cn (k0:Pr E g76.A g76.R):∀ v:A,Cn E (d k0.p v) fun i=>d (k0.q i) v:=fun (v0,v1,v2)=>(.bnd (k0.h _) fun _=>.some)
theorem f_b (k:Nat):∀ v:A,f k v = d (g76.f k) v:=fun (v0,v1,v2)=>(held_eq _).trans (by kernel_rfl)
theorem F_of (v:A) {r:R} (h:d g76.F v = some r):F v = some r:=join_of (fun L=>f_b (L 0) v) (d_cn (lp g76.f 0) v) h
noncomputable def spec (k:Nat):List AV→List Slot→Option Ans:=specS sh os (f k)
theorem spec_ok (k:Nat):SpecOk Tryz.prog 142 (spec k):=specS_ok cs_ok Tryz.func142 rfl rfl (fun _ _=>held_eq _) k
end g77
noncomputable def tg77:=tg76.cons 142 g77.spec g77.spec_ok
namespace g78 -- bound_Exact_Fix
abbrev R:Type:=Int × Int × Bool
abbrev A:Type:=Int
abbrev Y:=A→Option R
def lv:List (Nat × List Nat):=[(2000000,[2])]
noncomputable def cs:Nat→Ctx:=ctxOf tis modes tg77.1 lv
theorem cs_ok (n:Nat):CtxOk Tryz.prog (cs n):=ctxOf_ok rfl tis_ok tg77.2 n
def sh:AS:=⟨[(.c (.int .i64))],[]⟩
def os:OS:=⟨.agg [.int .i64,.int .i64,.bool],[]⟩
def enc (r:R):Out:=os.enc r
def dec:Out→Option R:=os.dec
noncomputable def b0:Code:=subF [] Tryz.f146
noncomputable def K0 (k:Nat):Kt R:=kTop (cs k) Tryz.f146 dec
noncomputable def f (k:Nat):Y:=fun v=>held (runFn cs k Tryz.f146 (sh.args v) (sh.slots v) dec)
noncomputable def F:Y:=lm f
def d (p0:g75.Y):Y:=fun v0 =>
bnd (p0 (v0,v0)) fun r=>some (r.1,r.2.1,r.2.2)
theorem d_cn (k0:Pr E g75.A g75.R):∀ v:A,Cn E (d k0.p v) fun i=>d (k0.q i) v:=fun v0=>(.bnd (k0.h _) fun _=>.some)
theorem f_b (k:Nat):∀ v:A,f k v = d (g75.f k) v:=fun v0=>(held_eq _).trans (by kernel_rfl)
theorem F_of (v:A) {r:R} (h:d g75.F v = some r):F v = some r:=join_of (fun L=>f_b (L 0) v) (d_cn (lp g75.f 0) v) h
noncomputable def spec (k:Nat):List AV→List Slot→Option Ans:=specS sh os (f k)
theorem spec_ok (k:Nat):SpecOk Tryz.prog 146 (spec k):=specS_ok cs_ok Tryz.func146 rfl rfl (fun _ _=>held_eq _) k
end g78
noncomputable def tg78:=tg77.cons 146 g78.spec g78.spec_ok
namespace g79 -- bound_vague_Fix
abbrev R:Type:=Bool
abbrev A:Type:=Int × Int × Bool × Int × Int × Bool
abbrev Y:=A→Option R
def lv:List (Nat × List Nat):=[(2000000,[4])]
noncomputable def cs:Nat→Ctx:=ctxOf tis modes tg78.1 lv
theorem cs_ok (n:Nat):CtxOk Tryz.prog (cs n):=ctxOf_ok rfl tis_ok tg78.2 n
def sh:AS:=⟨[.agg [.int .i64,.int .i64,.bool],.agg [.int .i64,.int .i64,.bool]],[]⟩
def os:OS:=⟨.c .bool,[]⟩
def enc (r:R):Out:=os.enc r
def dec:Out→Option R:=os.dec
noncomputable def b0:Code:=subF [] Tryz.f175
noncomputable def K0 (k:Nat):Kt R:=kTop (cs k) Tryz.f175 dec
noncomputable def f (k:Nat):Y:=fun v=>held (runFn cs k Tryz.f175 (sh.args v) (sh.slots v) dec)
noncomputable def F:Y:=lm f
def d (p0:g74.Y):Y:=fun (v0,v1,v2,v3,v4,v5) =>
bnd (p0 (v0,v1,v2)) fun r=>br (r.2.2 == false) (bnd (p0 (v3,v4,v5)) fun r=>some r.2.2) (some true)
theorem d_cn (k0:Pr E g74.A g74.R):∀ v:A,Cn E (d k0.p v) fun i=>d (k0.q i) v:=fun (v0,v1,v2,v3,v4,v5)=>(.bnd (k0.h _) fun _=>(.br (.bnd (k0.h _) fun _=>.some) .some))
theorem f_b (k:Nat):∀ v:A,f k v = d (g74.f k) v:=fun (v0,v1,v2,v3,v4,v5)=>(held_eq _).trans (by kernel_rfl)
theorem F_of (v:A) {r:R} (h:d g74.F v = some r):F v = some r:=join_of (fun L=>f_b (L 0) v) (d_cn (lp g74.f 0) v) h
noncomputable def spec (k:Nat):List AV→List Slot→Option Ans:=specS sh os (f k)
theorem spec_ok (k:Nat):SpecOk Tryz.prog 175 (spec k):=specS_ok cs_ok Tryz.func175 rfl rfl (fun _ _=>held_eq _) k
end g79
noncomputable def tg79:=tg78.cons 175 g79.spec g79.spec_ok
namespace g80 -- bound_Mul_FixS1
abbrev R:Type:=Int × Int × Int
abbrev A:Type:=Int × Int × Int
abbrev Y:=A→Option R
def lv:List (Nat × List Nat):=[(2000000,[5,6])]
noncomputable def cs:Nat→Ctx:=ctxOf tis modes tg79.1 lv
theorem cs_ok (n:Nat):CtxOk Tryz.prog (cs n):=ctxOf_ok rfl tis_ok tg79.2 n
def sh:AS:=⟨[.c (.int .i64),.c (.int .i64),.c (.ptr 128000000 0)],[(.box [(.int .i64)])]⟩
def os:OS:=⟨.tup [.c (.int .i64),.c (.int .i64)],[(.box [(.int .i64)])]⟩
def enc (r:R):Out:=os.enc r
def dec:Out→Option R:=os.dec
noncomputable def b0:Code:=subF [] Tryz.f178
noncomputable def K0 (k:Nat):Kt R:=kTop (cs k) Tryz.f178 dec
noncomputable def f (k:Nat):Y:=fun v=>held (runFn cs k Tryz.f178 (sh.args v) (sh.slots v) dec)
noncomputable def F:Y:=lm f
def d (p0:g52.Y):Y:=fun (v0,v1,v2) =>
bnd (p0 (v0,v1,v2)) fun r=>some (r.1,r.2,v2)
theorem d_cn (k0:Pr E g52.A g52.R):∀ v:A,Cn E (d k0.p v) fun i=>d (k0.q i) v:=fun (v0,v1,v2)=>(.bnd (k0.h _) fun _=>.some)
theorem f_b (k:Nat):∀ v:A,f k v = d (g52.f k) v:=fun (v0,v1,v2)=>(held_eq _).trans (by kernel_rfl)
theorem F_of (v:A) {r:R} (h:d g52.F v = some r):F v = some r:=join_of (fun L=>f_b (L 0) v) (d_cn (lp g52.f 0) v) h
noncomputable def spec (k:Nat):List AV→List Slot→Option Ans:=specS sh os (f k)
theorem spec_ok (k:Nat):SpecOk Tryz.prog 178 (spec k):=specS_ok cs_ok Tryz.func178 rfl rfl (fun _ _=>held_eq _) k
end g80
noncomputable def tg80:=tg79.cons 178 g80.spec g80.spec_ok
namespace g81 -- bound_Mul_FixS2
abbrev R:Type:=Int × Int × Int
abbrev A:Type:=Int × Int × Int
abbrev Y:=A→Option R
def lv:List (Nat × List Nat):=[(2000000,[5,6])]
noncomputable def cs:Nat→Ctx:=ctxOf tis modes tg80.1 lv
theorem cs_ok (n:Nat):CtxOk Tryz.prog (cs n):=ctxOf_ok rfl tis_ok tg80.2 n
def sh:AS:=⟨[.c (.int .i64),.c (.int .i64),.c (.ptr 128000000 0)],[(.box [(.int .i64)])]⟩
def os:OS:=⟨.tup [.c (.int .i64),.c (.int .i64)],[(.box [(.int .i64)])]⟩
def enc (r:R):Out:=os.enc r
def dec:Out→Option R:=os.dec
noncomputable def b0:Code:=subF [] Tryz.f179
noncomputable def K0 (k:Nat):Kt R:=kTop (cs k) Tryz.f179 dec
noncomputable def f (k:Nat):Y:=fun v=>held (runFn cs k Tryz.f179 (sh.args v) (sh.slots v) dec)
noncomputable def F:Y:=lm f
def d (p0:g54.Y):Y:=fun (v0,v1,v2) =>
bnd (p0 (v0,v1,v2)) fun r=>some (r.1,r.2,v2)
theorem d_cn (k0:Pr E g54.A g54.R):∀ v:A,Cn E (d k0.p v) fun i=>d (k0.q i) v:=fun (v0,v1,v2)=>(.bnd (k0.h _) fun _=>.some)
theorem f_b (k:Nat):∀ v:A,f k v = d (g54.f k) v:=fun (v0,v1,v2)=>(held_eq _).trans (by kernel_rfl)
theorem F_of (v:A) {r:R} (h:d g54.F v = some r):F v = some r:=join_of (fun L=>f_b (L 0) v) (d_cn (lp g54.f 0) v) h
noncomputable def spec (k:Nat):List AV→List Slot→Option Ans:=specS sh os (f k)
theorem spec_ok (k:Nat):SpecOk Tryz.prog 179 (spec k):=specS_ok cs_ok Tryz.func179 rfl rfl (fun _ _=>held_eq _) k
end g81
noncomputable def tg81:=tg80.cons 179 g81.spec g81.spec_ok
end Go.Proofs.RPl
